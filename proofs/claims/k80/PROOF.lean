import PyProof.Rows.All
import Wide.All
import OpenK.AllK
import Wide.FinOn
import HandS.ForMost
import HandS.SortInts
import HandS.TupAny
import HandS.TupLe
import HandS.Style
import HandS.SortRule
import HandS.More
import HandS.Zip
import HandS.Conv
import PySem.Challenge.RW_foreverdays_k80_whole_spells_and_spans
set_option Elab.async false
set_option linter.all false
set_option maxRecDepth 100000
set_option maxHeartbeats 4000000
/-! DL: Python values as plain data, an environment of slots, every construct a function on environments. -/
namespace DL
open PySem PySem.Spec PyProof.Rows L2

abbrev D := PySem.PyData

mutual
/-- v stands for the datum d, all of it in H -/
inductive Rp (H : Hp) : V → D → Prop
  | non : Rp H .non .none
  | bl (b : Bool) : Rp H (.bl b) (.bool b)
  | int (i : Int) : Rp H (.int i) (.int i)
  | str (x : Str) : Rp H (.str x) (.str x)
  | lst {a : Addr} {xs : List V} {ds : List D} : H a = some (.lst xs) → Rps H xs ds → Rp H (.ref a) (.list ds)
  | tup {a : Addr} {xs : List V} {ds : List D} : H a = some (.tup xs) → Rps H xs ds → Rp H (.ref a) (.tuple ds)
inductive Rps (H : Hp) : List V → List D → Prop
  | nil : Rps H [] []
  | cons {v : V} {vs : List V} {d : D} {ds : List D} : Rp H v d → Rps H vs ds → Rps H (v :: vs) (d :: ds)
end

mutual
theorem Rp.mono {H H' : Hp} (e : Same H H') : ∀ (d : D) (v : V), Rp H v d → Rp H' v d
  | .none, _, h => by cases h; exact .non
  | .bool b, _, h => by cases h; exact .bl b
  | .int i, _, h => by cases h; exact .int i
  | .str x, _, h => by cases h; exact .str x
  | .list ds, _, h => by
    cases h with
    | lst h1 h2 => exact .lst (e _ _ h1) (Rps.mono e ds _ h2)
  | .tuple ds, _, h => by
    cases h with
    | tup h1 h2 => exact .tup (e _ _ h1) (Rps.mono e ds _ h2)
  | .dict kvs, _, h => by cases h
theorem Rps.mono {H H' : Hp} (e : Same H H') : ∀ (ds : List D) (vs : List V), Rps H vs ds → Rps H' vs ds
  | [], _, h => by cases h; exact .nil
  | d :: ds, _, h => by
    cases h with
    | cons h1 h2 => exact .cons (Rp.mono e d _ h1) (Rps.mono e ds _ h2)
end
theorem Rp.up {H H' : Hp} {v : V} {d : D} (h : Rp H v d) (e : Same H H') : Rp H' v d := Rp.mono e d v h
theorem Rps.up {H H' : Hp} {vs : List V} {ds : List D} (h : Rps H vs ds) (e : Same H H') : Rps H' vs ds := Rps.mono e ds vs h
theorem Rps.len {H : Hp} : ∀ {vs : List V} {ds : List D}, Rps H vs ds → vs.length = ds.length
  | _, _, .nil => rfl
  | _, _, .cons _ t => by rw [List.length_cons, List.length_cons, Rps.len t]
theorem Rps.app {H : Hp} : ∀ {vs ws : List V} {ds es : List D}, Rps H vs ds → Rps H ws es → Rps H (vs ++ ws) (ds ++ es)
  | _, _, _, _, .nil, h => h
  | _, _, _, _, .cons r t, h => .cons r (Rps.app t h)
theorem Rps.at {H : Hp} : ∀ {vs : List V} {ds : List D} {i : Nat} {d : D}, Rps H vs ds → ds[i]? = some d → ∃ v, vs[i]? = some v ∧ Rp H v d
  | _, _, _, _, .nil, h => by simp at h
  | _, _, 0, _, .cons r _, h => by
    simp at h
    subst h
    exact ⟨_, rfl, r⟩
  | _, _, i + 1, d, .cons _ t, h => by
    obtain ⟨v, h1, h2⟩ := Rps.at (i := i) (d := d) t (by simpa using h)
    exact ⟨v, by simpa using h1, h2⟩
theorem Rps.at' {H : Hp} : ∀ {vs : List V} {ds : List D} {i : Nat} {v : V}, Rps H vs ds → vs[i]? = some v → ∃ d, ds[i]? = some d ∧ Rp H v d
  | _, _, _, _, .nil, h => by simp at h
  | _, _, 0, _, .cons r _, h => by
    simp at h
    subst h
    exact ⟨_, rfl, r⟩
  | _, _, i + 1, v, .cons _ t, h => by
    obtain ⟨d, h1, h2⟩ := Rps.at' (i := i) (v := v) t (by simpa using h)
    exact ⟨d, by simpa using h1, h2⟩
theorem Rps.setAt {H : Hp} {v : V} {d : D} (r : Rp H v d) : ∀ {vs : List V} {ds : List D} (i : Nat), Rps H vs ds → Rps H (vs.set i v) (ds.set i d)
  | _, _, _, .nil => .nil
  | _, _, 0, .cons _ t => .cons r t
  | _, _, i + 1, .cons q t => .cons q (Rps.setAt r i t)
theorem Rps.eraseAt {H : Hp} : ∀ {vs : List V} {ds : List D} (i : Nat), Rps H vs ds → Rps H (vs.eraseIdx i) (ds.eraseIdx i)
  | _, _, _, .nil => .nil
  | _, _, 0, .cons _ t => t
  | _, _, i + 1, .cons q t => .cons q (Rps.eraseAt i t)
theorem Rps.takeN {H : Hp} : ∀ {vs : List V} {ds : List D} (n : Nat), Rps H vs ds → Rps H (vs.take n) (ds.take n)
  | _, _, 0, _ => .nil
  | _, _, _ + 1, .nil => .nil
  | _, _, n + 1, .cons q t => .cons q (Rps.takeN n t)
theorem Rps.dropN {H : Hp} : ∀ {vs : List V} {ds : List D} (n : Nat), Rps H vs ds → Rps H (vs.drop n) (ds.drop n)
  | _, _, 0, h => h
  | _, _, _ + 1, .nil => .nil
  | _, _, n + 1, .cons _ t => Rps.dropN n t
theorem Rps.rev {H : Hp} : ∀ {vs : List V} {ds : List D}, Rps H vs ds → Rps H vs.reverse ds.reverse
  | _, _, .nil => .nil
  | _, _, .cons q t => by
    rw [List.reverse_cons, List.reverse_cons]
    exact Rps.app (Rps.rev t) (.cons q .nil)
theorem Rps.dropL {H : Hp} {vs : List V} {ds : List D} (h : Rps H vs ds) : Rps H vs.dropLast ds.dropLast := by
  rw [List.dropLast_eq_take, List.dropLast_eq_take, h.len]
  exact h.takeN _
theorem Rps.rep {H : Hp} {vs : List V} {ds : List D} (h : Rps H vs ds) : ∀ k : Nat, Rps H (List.replicate k vs).flatten (List.replicate k ds).flatten
  | 0 => .nil
  | k + 1 => by
    rw [List.replicate_succ, List.replicate_succ, List.flatten_cons, List.flatten_cons]
    exact Rps.app h (Rps.rep h k)
/-- a list of ints -/
theorem Rps.ints {H : Hp} : ∀ {vs : List V} {ns : List Int}, Rps H vs (ns.map PyData.int) → vs = ns.map V.int
  | _, [], h => by cases h; rfl
  | _, n :: ns, h => by
    rw [List.map_cons] at h
    cases h with
    | cons r t =>
      cases r
      rw [List.map_cons, Rps.ints t]
theorem Rps.ofInts {H : Hp} : ∀ (ns : List Int), Rps H (ns.map V.int) (ns.map PyData.int)
  | [] => .nil
  | n :: ns => .cons (.int n) (Rps.ofInts ns)
theorem Rps.bls {H : Hp} : ∀ {vs : List V} {ns : List Bool}, Rps H vs (ns.map PyData.bool) → vs = ns.map V.bl
  | _, [], h => by cases h; rfl
  | _, n :: ns, h => by
    rw [List.map_cons] at h
    cases h with
    | cons r t =>
      cases r
      rw [List.map_cons, Rps.bls t]

/-- to the kit's relation -/
theorem dp_all {K : PySem.W.Frag} {H : Hp} (f : ∀ (d : D) (v : V), Rp H v d → Dp K H v d) : ∀ (ds : List D) (vs : List V), Rps H vs ds → DpAll K H vs ds
  | [], _, h => by cases h; exact .nil
  | d :: ds, _, h => by
    cases h with
    | cons h1 h2 => exact .cons (f d _ h1) (dp_all f ds _ h2)
mutual
theorem Rp.dp {K : PySem.W.Frag} {H : Hp} : ∀ (d : D) (v : V), Rp H v d → Dp K H v d
  | .none, _, h => by cases h; exact .non
  | .bool b, _, h => by cases h; exact .bl b
  | .int i, _, h => by cases h; exact .int i
  | .str x, _, h => by cases h; exact .str x
  | .list ds, _, h => by
    cases h with
    | lst h1 h2 => exact .lst (SqL.of h1) (Rps.dp ds _ h2)
  | .tuple ds, _, h => by
    cases h with
    | tup h1 h2 => exact .tup (SqT.of h1) (Rps.dp ds _ h2)
  | .dict kvs, _, h => by cases h
theorem Rps.dp {K : PySem.W.Frag} {H : Hp} : ∀ (ds : List D) (vs : List V), Rps H vs ds → DpAll K H vs ds
  | [], _, h => by cases h; exact .nil
  | d :: ds, _, h => by
    cases h with
    | cons h1 h2 => exact .cons (Rp.dp d _ h1) (Rps.dp ds _ h2)
end

/-! ### slots -/
def kD : Key → D
  | .inl i => .int i
  | .inr x => .str x
/-- what a slot holds: shared data; a list or dict of the def's own (p: the caller's, lent); the script -/
inductive Sl where
  | val (d : D)
  | own (p : Bool) (ds : List D)
  | dic (p : Bool) (kvs : List (Key × D))
  | scr (ns : List Int)
def Sl.mine : Sl → Bool
  | .own _ _ => true
  | .dic _ _ => true
  | _ => false
def Sl.lent : Sl → Bool
  | .own p _ => p
  | .dic p _ => p
  | _ => false
def Sl.data : Sl → Option D
  | .val d => some d
  | .own _ ds => some (.list ds)
  | .dic _ kvs => some (.dict (kvs.map fun p => (kD p.1, p.2)))
  | .scr _ => none
abbrev Env := List (Option Sl)

/-- what a run must leave as it is; where lent objects lie -/
structure Fm where
  F : Hp
  A : Nat → Addr

abbrev KvR (B : Hp) : List (Key × V) → List (Key × D) → Prop := Paired fun p q => p.1 = q.1 ∧ Rp B p.2 q.2

def SRep (K : PySem.W.Frag) (m : Fm) (B H : Hp) : Sl → V → Prop
  | .val d, v => Rp B v d
  | .own _ ds, v => ∃ a xs, v = .ref a ∧ B a = none ∧ m.F a = none ∧ H a = some (.lst xs) ∧ Rps B xs ds
  | .dic _ kvs, v => ∃ a vs, v = .ref a ∧ B a = none ∧ m.F a = none ∧ H a = some (.dK vs) ∧ KvR B vs kvs
  | .scr ns, v => ∃ a, v = .ref a ∧ SqL K B a (ns.map V.int)

def OwnAt (ρ : Env) (i : Nat) : Prop := ∃ s, ρ[i]? = some (some s) ∧ s.mine = true

structure ERep (K : PySem.W.Frag) (m : Fm) (B H : Hp) (σ : L2.St) (ρ : Env) : Prop where
  bH : Same B H
  fH : Same m.F H
  len : ρ.length = σ.length
  have_ : ∀ i s, ρ[i]? = some (some s) → ∃ v, σ[i]? = some (some v) ∧ SRep K m B H s v ∧ (s.lent = true → v = .ref (m.A i))
  apart : ∀ i j a, i ≠ j → OwnAt ρ i → OwnAt ρ j → σ[i]? = some (some (.ref a)) → σ[j]? ≠ some (some (.ref a))

def Grow (m : Fm) (B B' : Hp) : Prop := Same B B' ∧ ∀ a, B' a ≠ none → B a ≠ none ∨ m.F a = none
theorem Grow.refl (m : Fm) (B : Hp) : Grow m B B := ⟨Same.refl B, fun _ h => .inl h⟩
theorem Grow.trans {m : Fm} {B B1 B2 : Hp} (a : Grow m B B1) (b : Grow m B1 B2) : Grow m B B2 :=
  ⟨a.1.trans b.1, fun x h => (b.2 x h).elim (a.2 x) .inr⟩

/-- what an expression gives: data; a new list or dict; what slot i holds (of the def's own) -/
inductive R where
  | val (d : D)
  | new (s : Sl)
  | at (i : Nat)
def RRep (K : PySem.W.Frag) (m : Fm) (B H : Hp) (σ : L2.St) (ρ : Env) : R → V → Prop
  | .val d, v => Rp B v d
  | .new s, v => s.mine = true ∧ s.lent = false ∧ SRep K m B H s v ∧ ∀ i, OwnAt ρ i → σ[i]? ≠ some (some v)
  | .at i, v => σ[i]? = some (some v)

abbrev SE := Env → Option (R × Env)
abbrev ST := Env → Option (Bool × Env)
abbrev SA := Env → Option (List R × Env)
inductive Fl where
  | nx | bk | ct
  | rt (r : R)
abbrev SS := Env → Option (Fl × Env)

def tD (K : PySem.W.Frag) (f : SE) : TE := fun σ H Q => ∃ (m : Fm) (B : Hp) (ρ : Env) (r : R) (ρ' : Env), ERep K m B H σ ρ ∧ f ρ = some (r, ρ') ∧
  ∀ v H' B', Grow m B B' → ERep K m B' H' σ ρ' → RRep K m B' H' σ ρ' r v → Q v H'
def tT (K : PySem.W.Frag) (f : ST) : TT := fun σ H Q => ∃ (m : Fm) (B : Hp) (ρ : Env) (b : Bool) (ρ' : Env), ERep K m B H σ ρ ∧ f ρ = some (b, ρ') ∧
  ∀ H' B', Grow m B B' → ERep K m B' H' σ ρ' → Q b H'
def RReps (K : PySem.W.Frag) (m : Fm) (B H : Hp) (σ : L2.St) (ρ : Env) : List R → List V → Prop
  | [], vs => vs = []
  | r :: rs, vs => ∃ v ws, vs = v :: ws ∧ RRep K m B H σ ρ r v ∧ RReps K m B H σ ρ rs ws
def tA (K : PySem.W.Frag) (f : SA) : TA := fun σ H Q => ∃ (m : Fm) (B : Hp) (ρ : Env) (rs : List R) (ρ' : Env), ERep K m B H σ ρ ∧ f ρ = some (rs, ρ') ∧
  ∀ vs H' B', Grow m B B' → ERep K m B' H' σ ρ' → RReps K m B' H' σ ρ' rs vs → Q vs H'
def tEnd (K : PySem.W.Frag) (m : Fm) (B' : Hp) (E : Ends) (σ' : L2.St) (H' : Hp) (ρ' : Env) : Fl → Prop
  | .nx => E.nx σ' H'
  | .bk => E.bk σ' H'
  | .ct => E.ct σ' H'
  | .rt r => ∀ v, RRep K m B' H' σ' ρ' r v → E.rt v H'
def tS (K : PySem.W.Frag) (f : SS) : TS := fun E σ H => ∃ (m : Fm) (B : Hp) (ρ : Env) (fl : Fl) (ρ' : Env), ERep K m B H σ ρ ∧ f ρ = some (fl, ρ') ∧
  ∀ σ' H' B', Grow m B B' → ERep K m B' H' σ' ρ' → tEnd K m B' E σ' H' ρ' fl

structure DE (X : Cx) (e : Expr) (f : SE) : Prop where
  pe : PE X e (tD X.K f)
structure DT (X : Cx) (e : Expr) (f : ST) : Prop where
  pt : PT X e (tT X.K f)
structure DW (X : Cx) (e : Expr) (f : ST) : Prop where
  pw : PW X e (tT X.K f)
structure DA (X : Cx) (es : List Expr) (f : SA) : Prop where
  pa : PA X es (tA X.K f)
structure DS (X : Cx) (st : Stmt) (f : SS) : Prop where
  ps : PS X st (tS X.K f)
structure DSs (X : Cx) (st : List Stmt) (f : SS) : Prop where
  ps : PSs X st (tS X.K f)

/-! ### weakening -/
section
variable {X : Cx}
theorem PE.imp {e : Expr} {t t' : TE} (h : PE X e t) (w : ∀ σ H Q, t' σ H Q → t σ H Q) : PE X e t' := ⟨fun pins s σ H Q I q => h.run pins s σ H Q I (w σ H Q q)⟩
theorem PT.imp {e : Expr} {t t' : TT} (h : PT X e t) (w : ∀ σ H Q, t' σ H Q → t σ H Q) : PT X e t' := ⟨fun pins s σ H Q I q => h.run pins s σ H Q I (w σ H Q q)⟩
theorem PW.imp {e : Expr} {t t' : TT} (h : PW X e t) (w : ∀ σ H Q, t' σ H Q → t σ H Q) : PW X e t' := ⟨fun wh pins s σ H Q I q => h.run wh pins s σ H Q I (w σ H Q q)⟩
theorem PA.imp {es : List Expr} {t t' : TA} (h : PA X es t) (w : ∀ σ H Q, t' σ H Q → t σ H Q) : PA X es t' := ⟨fun pos pins s σ H Q I q => h.run pos pins s σ H Q I (w σ H Q q)⟩
theorem PS.imp {st : Stmt} {t t' : TS} (h : PS X st t) (w : ∀ E σ H, t' E σ H → t E σ H) : PS X st t' := ⟨fun pins s σ H E I q => h.run pins s σ H E I (w E σ H q)⟩
theorem PSs.imp {st : List Stmt} {t t' : TS} (h : PSs X st t) (w : ∀ E σ H, t' E σ H → t E σ H) : PSs X st t' := ⟨fun pins s σ H E I q => h.run pins s σ H E I (w E σ H q)⟩
end

/-! ### the environment's lemmas -/
section
variable {K : PySem.W.Frag} {m : Fm} {B B' H H' : Hp} {σ : L2.St} {ρ ρ' : Env} {v : V} {r : R} {s : Sl} {d : D}
theorem KvR.up {vs : List (Key × V)} {kvs : List (Key × D)} (h : KvR B vs kvs) (e : Same B B') : KvR B' vs kvs := Paired.mapP h fun p q z => ⟨z.1, z.2.up e⟩
theorem sql_up {a : Addr} {xs : List V} (h : SqL K B a xs) (e : Same B B') : SqL K B' a xs := e.seq h
theorem ERep.look (E : ERep K m B H σ ρ) {i : Nat} (h : ρ[i]? = some (some s)) : ∃ v, σ[i]? = some (some v) ∧ SRep K m B H s v ∧ (s.lent = true → v = .ref (m.A i)) := E.have_ i s h
theorem mine_ref {s : Sl} {v : V} (hm : s.mine = true) (h : SRep K m B H s v) : ∃ a, v = .ref a ∧ B a = none ∧ m.F a = none ∧ H a ≠ none := by
  cases s with
  | val d => cases hm
  | own p ds =>
    obtain ⟨a, xs, rfl, h1, h2, h3, _⟩ := h
    exact ⟨a, rfl, h1, h2, by rw [h3]; simp⟩
  | dic p kvs =>
    obtain ⟨a, xs, rfl, h1, h2, h3, _⟩ := h
    exact ⟨a, rfl, h1, h2, by rw [h3]; simp⟩
  | scr ns => cases hm
/-- all the same slots, in a heap where the stable part and what is its own stand -/
theorem SRep.keep {s : Sl} {v : V} (h : SRep K m B H s v) (eB : Same B B') (hn : ∀ a, v = .ref a → s.mine = true → B' a = none ∧ H' a = H a) : SRep K m B' H' s v := by
  cases s with
  | val d => exact Rp.up h eB
  | own p ds =>
    obtain ⟨a, xs, rfl, h1, h2, h3, h4⟩ := h
    obtain ⟨n1, n2⟩ := hn a rfl rfl
    exact ⟨a, xs, rfl, n1, h2, n2.trans h3, h4.up eB⟩
  | dic p kvs =>
    obtain ⟨a, xs, rfl, h1, h2, h3, h4⟩ := h
    obtain ⟨n1, n2⟩ := hn a rfl rfl
    exact ⟨a, xs, rfl, n1, h2, n2.trans h3, h4.up eB⟩
  | scr ns =>
    obtain ⟨a, rfl, h1⟩ := h
    exact ⟨a, rfl, sql_up h1 eB⟩
/-- the whole environment, likewise -/
theorem ERep.keep (E : ERep K m B H σ ρ) (eB : Same B B') (eBH : Same B' H') (eF : Same m.F H') (hn : ∀ i a, OwnAt ρ i → σ[i]? = some (some (.ref a)) → B' a = none ∧ H' a = H a) : ERep K m B' H' σ ρ := by
  refine ⟨eBH, eF, E.len, fun i s h => ?_, E.apart⟩
  obtain ⟨v, h1, h2, h3⟩ := E.have_ i s h
  refine ⟨v, h1, h2.keep eB fun a ea hm => hn i a ⟨s, h, hm⟩ (by rw [h1, ea]), h3⟩
theorem ERep.own_ne (E : ERep K m B H σ ρ) {i : Nat} {a : Addr} (h : OwnAt ρ i) (ha : σ[i]? = some (some (.ref a))) : B a = none ∧ m.F a = none ∧ H a ≠ none := by
  obtain ⟨s, h1, h2⟩ := h
  obtain ⟨v, e1, e2, _⟩ := E.have_ i s h1
  obtain ⟨b, rfl, q⟩ := mine_ref h2 e2
  rw [e1] at ha
  cases ha
  exact q
theorem same_new {p : Addr} {o : HO} (h : H p = none) : Same H (upd H p o) := fun b x e => by
  rw [upd_ne (ne_of_none e h)]
  exact e
theorem none_of_same {p : Addr} (e : Same B H) (h : H p = none) : B p = none := e.free h
/-- a new object, not yet in the stable part -/
theorem ERep.laid (E : ERep K m B H σ ρ) {p : Addr} {o : HO} (h : H p = none) : ERep K m B (upd H p o) σ ρ :=
  E.keep (Same.refl B) (E.bH.trans (same_new h)) (E.fH.trans (same_new h)) fun i a h1 h2 => by
    obtain ⟨q1, q2, q3⟩ := E.own_ne h1 h2
    exact ⟨q1, upd_ne fun e => q3 (e ▸ h)⟩
/-- an object that is nobody's goes into the stable part -/
theorem ERep.shelve (E : ERep K m B H σ ρ) {p : Addr} {o : HO} (hB : B p = none) (hF : m.F p = none) (hH : H p = some o) (hn : ∀ i, OwnAt ρ i → σ[i]? ≠ some (some (.ref p))) : Grow m B (upd B p o) ∧ ERep K m (upd B p o) H σ ρ := by
  have s1 : Same B (upd B p o) := same_new hB
  refine ⟨⟨s1, fun a ha => ?_⟩, E.keep s1 (fun b x e => ?_) E.fH fun i a h1 h2 => ?_⟩
  · by_cases e : a = p
    · subst e
      exact .inr hF
    · rw [upd_ne e] at ha
      exact .inl ha
  · by_cases eb : b = p
    · subst eb
      rw [upd_same] at e
      cases e
      exact hH
    · rw [upd_ne eb] at e
      exact E.bH b x e
  · have ne : a ≠ p := fun e => hn i h1 (e ▸ h2)
    rw [upd_ne ne]
    exact ⟨(E.own_ne h1 h2).1, rfl⟩
/-- both at once: a new tuple -/
theorem ERep.laidIn (E : ERep K m B H σ ρ) {p : Addr} {o : HO} (h : H p = none) : Grow m B (upd B p o) ∧ ERep K m (upd B p o) (upd H p o) σ ρ := by
  have E1 := E.laid (o := o) h
  have hB : B p = none := none_of_same E.bH h
  have hF : m.F p = none := none_of_same E.fH h
  refine E1.shelve hB hF upd_same fun i h1 h2 => ?_
  exact (E.own_ne h1 h2).2.2 h
/-- forgetting -/
theorem getElem?_set_some {α : Type} {l : List (Option α)} {i j : Nat} {s : α} (h : (l.set i none)[j]? = some (some s)) : l[j]? = some (some s) ∧ j ≠ i := by
  by_cases e : i = j
  · subst e
    by_cases hi : i < l.length
    · rw [List.getElem?_set_self hi] at h
      cases h
    · rw [List.getElem?_eq_none (by simpa using hi)] at h
      cases h
  · rw [List.getElem?_set_ne e] at h
    exact ⟨h, fun q => e q.symm⟩
theorem ERep.less (E : ERep K m B H σ ρ) (hl : ρ'.length = ρ.length) (h : ∀ (i : Nat) (s : Sl), ρ'[i]? = some (some s) → ρ[i]? = some (some s)) : ERep K m B H σ ρ' :=
  ⟨E.bH, E.fH, hl.trans E.len, fun i s e => E.have_ i s (h i s e), fun i j a n o1 o2 => E.apart i j a n (let ⟨s, q, q'⟩ := o1; ⟨s, h i s q, q'⟩) (let ⟨s, q, q'⟩ := o2; ⟨s, h j s q, q'⟩)⟩
/-- a slot is stored: data -/
theorem ERep.setVal (E : ERep K m B H σ ρ) {i : Nat} (hv : Rp B v d) : ERep K m B H (σ.set i (some v)) (ρ.set i (some (.val d))) := by
  refine ⟨E.bH, E.fH, by rw [List.length_set, List.length_set]; exact E.len, fun j s h => ?_, fun j k a n o1 o2 => ?_⟩
  · by_cases e : i = j
    · subst e
      by_cases hi : i < ρ.length
      · rw [List.getElem?_set_self hi] at h
        cases h
        refine ⟨v, List.getElem?_set_self (by rw [← E.len]; exact hi), hv, fun z => by cases z⟩
      · rw [List.getElem?_eq_none (by simpa using hi)] at h
        cases h
    · rw [List.getElem?_set_ne e] at h
      rw [List.getElem?_set_ne e]
      exact E.have_ j s h
  · have f : ∀ j, OwnAt (ρ.set i (some (.val d))) j → i ≠ j ∧ OwnAt ρ j := fun j ⟨s, q, q'⟩ => by
      by_cases e : i = j
      · subst e
        by_cases hi : i < ρ.length
        · rw [List.getElem?_set_self hi] at q
          cases q
          cases q'
        · rw [List.getElem?_eq_none (by simpa using hi)] at q
          cases q
      · rw [List.getElem?_set_ne e] at q
        exact ⟨e, s, q, q'⟩
    obtain ⟨n1, p1⟩ := f j o1
    obtain ⟨n2, p2⟩ := f k o2
    rw [List.getElem?_set_ne n1, List.getElem?_set_ne n2]
    exact E.apart j k a n p1 p2
/-- a slot is stored: a new thing of one's own -/
theorem ERep.setNew (E : ERep K m B H σ ρ) {i : Nat} (hm : s.mine = true) (hl : s.lent = false) (hs : SRep K m B H s v) (hn : ∀ i, OwnAt ρ i → σ[i]? ≠ some (some v)) : ERep K m B H (σ.set i (some v)) (ρ.set i (some s)) := by
  have f : ∀ j, OwnAt (ρ.set i (some s)) j → i ≠ j → OwnAt ρ j := fun j ⟨s, q, q'⟩ e => by
    rw [List.getElem?_set_ne e] at q
    exact ⟨s, q, q'⟩
  refine ⟨E.bH, E.fH, by rw [List.length_set, List.length_set]; exact E.len, fun j s' h => ?_, fun j k a n o1 o2 => ?_⟩
  · by_cases e : i = j
    · subst e
      by_cases hi : i < ρ.length
      · rw [List.getElem?_set_self hi] at h
        cases h
        refine ⟨v, List.getElem?_set_self (by rw [← E.len]; exact hi), hs, fun z => by rw [hl] at z; cases z⟩
      · rw [List.getElem?_eq_none (by simpa using hi)] at h
        cases h
    · rw [List.getElem?_set_ne e] at h
      rw [List.getElem?_set_ne e]
      exact E.have_ j s' h
  · intro e1 e2
    by_cases h1 : i = j
    · subst h1
      have hi : i < σ.length := by
        have := (List.getElem?_eq_some_iff.mp e1).1
        simpa using this
      rw [List.getElem?_set_self hi] at e1
      cases e1
      rw [List.getElem?_set_ne n] at e2
      exact hn k (f k o2 n) e2
    · rw [List.getElem?_set_ne h1] at e1
      by_cases h2 : i = k
      · subst h2
        have hi : i < σ.length := by
          have := (List.getElem?_eq_some_iff.mp e2).1
          simpa using this
        rw [List.getElem?_set_self hi] at e2
        cases e2
        exact hn j (f j o1 h1) e1
      · rw [List.getElem?_set_ne h2] at e2
        exact E.apart j k a n (f j o1 h1) (f k o2 h2) e1 e2
/-- the thing in slot i is changed in its place -/
theorem ERep.setMut (E : ERep K m B H σ ρ) {i : Nat} {s' : Sl} {a : Addr} {o : HO} (h : ρ[i]? = some (some s)) (hm : s.mine = true) (hσ : σ[i]? = some (some (.ref a))) (hm' : s'.mine = true) (hl : s'.lent = s.lent)
    (hs : SRep K m B (upd H a o) s' (.ref a)) : ERep K m B (upd H a o) σ (ρ.set i (some s')) := by
  obtain ⟨v, e1, e2, e3⟩ := E.have_ i s h
  obtain ⟨b, rfl, q1, q2, q3⟩ := mine_ref hm e2
  rw [hσ] at e1
  cases e1
  have up : ∀ {C : Hp}, Same C H → C a = none → Same C (upd H a o) := fun {C} e n c x z => by
    have : c ≠ a := fun w => by
      rw [w, n] at z
      cases z
    rw [upd_ne this]
    exact e c x z
  have hi : i < ρ.length := (List.getElem?_eq_some_iff.mp h).1
  have f : ∀ j, OwnAt (ρ.set i (some s')) j → OwnAt ρ j := fun j ⟨t, q, q'⟩ => by
    by_cases e : i = j
    · subst e
      exact ⟨s, h, hm⟩
    · rw [List.getElem?_set_ne e] at q
      exact ⟨t, q, q'⟩
  refine ⟨up E.bH q1, up E.fH q2, by rw [List.length_set]; exact E.len, fun j t g => ?_, fun j k c n o1 o2 => E.apart j k c n (f j o1) (f k o2)⟩
  by_cases e : i = j
  · subst e
    rw [List.getElem?_set_self hi] at g
    cases g
    exact ⟨.ref a, hσ, hs, fun z => e3 (by rw [← hl]; exact z)⟩
  · rw [List.getElem?_set_ne e] at g
    obtain ⟨w, g1, g2, g3⟩ := E.have_ j t g
    refine ⟨w, g1, g2.keep (Same.refl B) fun c ec hmt => ?_, g3⟩
    have hc : c ≠ a := fun z => by
      rw [ec, z] at g1
      exact E.apart i j a e ⟨s, h, hm⟩ ⟨t, g, hmt⟩ hσ g1
    exact ⟨(E.own_ne ⟨t, g, hmt⟩ (by rw [g1, ec])).1, upd_ne hc⟩
/-- a slot of one's own becomes shared -/
theorem ERep.share (E : ERep K m B H σ ρ) {i : Nat} {p : Bool} {ds : List D} (h : ρ[i]? = some (some (.own p ds))) (hσ : σ[i]? = some (some v)) :
    ∃ B', Grow m B B' ∧ ERep K m B' H σ (ρ.set i (some (.val (.list ds)))) ∧ Rp B' v (.list ds) := by
  obtain ⟨v', e1, ⟨a, xs, rfl, h1, h2, h3, h4⟩, e3⟩ := E.have_ i _ h
  rw [hσ] at e1
  cases e1
  have hi : i < ρ.length := (List.getElem?_eq_some_iff.mp h).1
  have E1 : ERep K m B H σ (ρ.set i none) := E.less (by rw [List.length_set]) fun j s q => (getElem?_set_some q).1
  obtain ⟨g, E2⟩ := E1.shelve h1 h2 h3 fun j ⟨s, q, q'⟩ z => by
    obtain ⟨r1, r2⟩ := getElem?_set_some q
    exact E.apart i j a (fun w => r2 w.symm) ⟨_, h, rfl⟩ ⟨s, r1, q'⟩ hσ z
  have hr : Rp (upd B a (.lst xs)) (.ref a) (.list ds) := .lst upd_same (h4.up g.1)
  have hσ' : σ.set i (some (.ref a)) = σ := by
    obtain ⟨hlt, hget⟩ := List.getElem?_eq_some_iff.mp hσ
    rw [← hget]
    exact List.set_getElem_self hlt
  have E3 := E2.setVal (i := i) hr
  rw [hσ', List.set_set] at E3
  exact ⟨_, g, E3, hr⟩
end

/-- as data, for good -/
def settle (r : R) (ρ : Env) : Option (D × Env) :=
  match r with
  | .val d => some (d, ρ)
  | .new (.own _ ds) => some (.list ds, ρ)
  | .new _ => none
  | .at i => match ρ[i]? with
    | some (some (.val d)) => some (d, ρ)
    | some (some (.own _ ds)) => some (.list ds, ρ.set i (some (.val (.list ds))))
    | _ => none
/-- what stays while more is evaluated -/
def stab : R → Option R
  | .new (.own _ ds) => some (.val (.list ds))
  | .new _ => none
  | r => some r
def look (ρ : Env) : R → Option Sl
  | .val d => some (.val d)
  | .new s => some s
  | .at i => (ρ[i]?).join
def dat (ρ : Env) (r : R) : Option D := (look ρ r).bind Sl.data
section
variable {K : PySem.W.Frag} {m : Fm} {B B' H H' : Hp} {σ : L2.St} {ρ ρ' : Env} {v : V} {r : R} {s : Sl} {d : D}
theorem new_shelve (E : ERep K m B H σ ρ) {p : Bool} {ds : List D} (h : RRep K m B H σ ρ (.new (.own p ds)) v) : ∃ B', Grow m B B' ∧ ERep K m B' H σ ρ ∧ Rp B' v (.list ds) := by
  obtain ⟨_, _, ⟨a, xs, rfl, h1, h2, h3, h4⟩, hn⟩ := h
  obtain ⟨g, E2⟩ := E.shelve h1 h2 h3 hn
  exact ⟨_, g, E2, .lst upd_same (h4.up g.1)⟩
theorem settle_ok (E : ERep K m B H σ ρ) (h : RRep K m B H σ ρ r v) (e : settle r ρ = some (d, ρ')) : ∃ B', Grow m B B' ∧ ERep K m B' H σ ρ' ∧ Rp B' v d := by
  cases r with
  | val d' =>
    cases e
    exact ⟨B, Grow.refl m B, E, h⟩
  | new s =>
    cases s with
    | own p ds =>
      cases e
      exact new_shelve E h
    | val _ => cases e
    | dic _ _ => cases e
    | scr _ => cases e
  | «at» i =>
    unfold settle at e
    dsimp only at e
    cases q : ρ[i]? with
    | none =>
      rw [q] at e
      cases e
    | some o =>
      cases o with
      | none =>
        rw [q] at e
        cases e
      | some s =>
        rw [q] at e
        have hσ : σ[i]? = some (some v) := h
        cases s with
        | val d' =>
          cases e
          obtain ⟨w, e1, e2, _⟩ := E.have_ i _ q
          rw [hσ] at e1
          cases e1
          exact ⟨B, Grow.refl m B, E, e2⟩
        | own p ds =>
          cases e
          exact E.share q hσ
        | dic _ _ => cases e
        | scr _ => cases e
/-- what stays -/
def Stays : R → Prop
  | .new _ => False
  | _ => True
theorem Stays.up (hs : Stays r) (h : RRep K m B H σ ρ r v) (g : Same B B') : RRep K m B' H' σ ρ' r v := by
  cases r with
  | val d => exact Rp.up h g
  | new s => cases hs
  | «at» i => exact h
theorem stab_ok {r' : R} (E : ERep K m B H σ ρ) (h : RRep K m B H σ ρ r v) (e : stab r = some r') : ∃ B', Grow m B B' ∧ ERep K m B' H σ ρ ∧ RRep K m B' H σ ρ r' v ∧ Stays r' := by
  cases r with
  | val d' =>
    cases e
    exact ⟨B, Grow.refl m B, E, h, True.intro⟩
  | new s =>
    cases s with
    | own p ds =>
      cases e
      obtain ⟨B', g, E', hr⟩ := new_shelve E h
      exact ⟨B', g, E', hr, True.intro⟩
    | val _ => cases e
    | dic _ _ => cases e
    | scr _ => cases e
  | «at» i =>
    cases e
    exact ⟨B, Grow.refl m B, E, h, True.intro⟩
theorem look_ok (E : ERep K m B H σ ρ) (h : RRep K m B H σ ρ r v) (e : look ρ r = some s) : SRep K m B H s v := by
  cases r with
  | val d' =>
    cases e
    exact h
  | new s' =>
    cases e
    exact h.2.2.1
  | «at» i =>
    have hσ : σ[i]? = some (some v) := h
    unfold look at e
    dsimp only at e
    cases q : ρ[i]? with
    | none =>
      rw [q] at e
      cases e
    | some o =>
      rw [q] at e
      cases e
      obtain ⟨w, e1, e2, _⟩ := E.have_ i _ q
      rw [hσ] at e1
      cases e1
      exact e2
end
/-- how a value looks from outside: its items are in the stable part -/
def Vw (B H : Hp) (v : V) : D → Prop
  | .list ds => ∃ a xs, v = .ref a ∧ H a = some (.lst xs) ∧ Rps B xs ds
  | .dict kvs => ∃ a vs, v = .ref a ∧ H a = some (.dK vs) ∧ Paired (fun (p : Key × V) (q : D × D) => kD p.1 = q.1 ∧ Rp B p.2 q.2) vs kvs
  | d => Rp B v d
def Vws (B H : Hp) : List V → List D → Prop
  | vs, [] => vs = []
  | vs, d :: ds => ∃ v ws, vs = v :: ws ∧ Vw B H v d ∧ Vws B H ws ds
section
variable {K : PySem.W.Frag} {m : Fm} {B B' H H' : Hp} {σ : L2.St} {ρ ρ' : Env} {v : V} {r : R} {s : Sl} {d : D}
theorem vw_of_rp (e : Same B H) (h : Rp B v d) : Vw B H v d := by
  cases d with
  | list ds =>
    cases h with
    | lst h1 h2 => exact ⟨_, _, rfl, e _ _ h1, h2⟩
  | dict kvs => cases h
  | none => exact h
  | bool b => exact h
  | int i => exact h
  | str x => exact h
  | tuple ds => exact h
theorem kvR_dict : ∀ {vs : List (Key × V)} {kvs : List (Key × D)}, KvR B vs kvs → Paired (fun (p : Key × V) (q : D × D) => kD p.1 = q.1 ∧ Rp B p.2 q.2) vs (kvs.map fun p => (kD p.1, p.2))
  | _, _, .nil => .nil
  | _, _, .cons r t => .cons ⟨by rw [r.1], r.2⟩ (kvR_dict t)
theorem vw_ok (E : ERep K m B H σ ρ) (h : RRep K m B H σ ρ r v) (e : dat ρ r = some d) : Vw B H v d := by
  unfold dat at e
  cases q : look ρ r with
  | none =>
    rw [q] at e
    cases e
  | some s =>
    rw [q] at e
    have hs := look_ok E h q
    cases s with
    | val d' =>
      cases e
      exact vw_of_rp E.bH hs
    | own p ds =>
      cases e
      obtain ⟨a, xs, rfl, h1, h2, h3, h4⟩ := hs
      exact ⟨a, xs, rfl, h3, h4⟩
    | dic p kvs =>
      cases e
      obtain ⟨a, xs, rfl, h1, h2, h3, h4⟩ := hs
      exact ⟨a, xs, rfl, h3, kvR_dict h4⟩
    | scr ns => cases e
end
end DL

namespace DL
open PySem PySem.Spec PyProof.Rows L2

/-- what an operation gives: a value; a new list; a tuple; a new dict -/
inductive ORes where
  | vl (d : D)
  | ls (ds : List D)
  | tp (ds : List D)
  | dc (kvs : List (Key × D))
def ORes.r : ORes → R
  | .vl d => .val d
  | .ls ds => .new (.own false ds)
  | .tp ds => .val (.tuple ds)
  | .dc kvs => .new (.dic false kvs)
def OPost (B H : Hp) (o : ORes) (Q : VK) : Prop :=
  match o with
  | .vl d => ∀ z, Rp B z d → Q z H
  | .ls ds => ∀ p xs, H p = none → Rps B xs ds → Q (.ref p) (upd H p (.lst xs))
  | .tp ds => (∀ z, Rp B z (.tuple ds) → Q z H) ∧ ∀ p xs, H p = none → Rps B xs ds → Q (.ref p) (upd H p (.tup xs))
  | .dc kvs => ∀ p vs, H p = none → KvR B vs kvs → Q (.ref p) (upd H p (.dK vs))
section
variable {K : PySem.W.Frag} {m : Fm} {B B' H H' : Hp} {σ : L2.St} {ρ ρ' : Env} {v : V} {r : R} {s : Sl} {d : D}
theorem own_ne_new (E : ERep K m B H σ ρ) {p : Addr} (h : H p = none) : ∀ i, OwnAt ρ i → σ[i]? ≠ some (some (.ref p)) := fun i h1 h2 => (E.own_ne h1 h2).2.2 h
theorem opost {Q : VK} (E : ERep K m B H σ ρ) (o : ORes) (k : ∀ v H' B', Grow m B B' → ERep K m B' H' σ ρ → RRep K m B' H' σ ρ o.r v → Q v H') : OPost B H o Q := by
  cases o with
  | vl d => exact fun z hz => k z H B (Grow.refl m B) E hz
  | ls ds => exact fun p xs hp hx => k (.ref p) _ B (Grow.refl m B) (E.laid hp) ⟨rfl, rfl, ⟨p, xs, rfl, none_of_same E.bH hp, none_of_same E.fH hp, upd_same, hx⟩, own_ne_new E hp⟩
  | tp ds =>
    refine ⟨fun z hz => k z H B (Grow.refl m B) E hz, fun p xs hp hx => ?_⟩
    obtain ⟨g, E'⟩ := E.laidIn (o := .tup xs) hp
    exact k (.ref p) _ _ g E' (.tup upd_same (hx.up g.1))
  | dc kvs => exact fun p vs hp hx => k (.ref p) _ B (Grow.refl m B) (E.laid hp) ⟨rfl, rfl, ⟨p, vs, rfl, none_of_same E.bH hp, none_of_same E.fH hp, upd_same, hx⟩, own_ne_new E hp⟩
end

/-! ### names and constants -/
def dVar (i : Nat) : SE := fun ρ => match ρ[i]? with
  | some (some (.val d)) => some (.val d, ρ)
  | some (some _) => some (.at i, ρ)
  | _ => none
def dC (d : D) : SE := fun ρ => some (.val d, ρ)
section
variable {X : Cx}
theorem de_var (i : Nat) {x : Str} {pos : Pos} (hN : X.N[i]? = some x := by rfl) (hv : Vis X.env.scope x := by first | exact Or.inl rfl | exact Or.inr (Or.inl rfl) | exact Or.inr (Or.inr rfl)) (hd : (x == ("__debug__" : Str)) = false := by decide)
    (hcd : (x == ("__classdict__" : Str)) = false := by decide) : DE X (.Name x pos) (dVar i) := ⟨PE.imp (pe_var hN hv hd hcd) fun σ H Q h => by
  obtain ⟨m, B, ρ, r, ρ', E, e, k⟩ := h
  unfold dVar at e
  cases q : ρ[i]? with
  | none => rw [q] at e; cases e
  | some o =>
    cases o with
    | none => rw [q] at e; cases e
    | some s =>
      rw [q] at e
      obtain ⟨v, h1, h2, _⟩ := E.have_ i s q
      refine ⟨v, h1, ?_⟩
      cases s with
      | val d => cases e; exact k v H B (Grow.refl m B) E h2
      | own p ds => cases e; exact k v H B (Grow.refl m B) E h1
      | dic p kvs => cases e; exact k v H B (Grow.refl m B) E h1
      | scr ns => cases e; exact k v H B (Grow.refl m B) E h1⟩
theorem tC_of {K : PySem.W.Frag} {v : V} {d : D} (hv : ∀ B, Rp B v d) : ∀ σ H Q, tD K (dC d) σ H Q → tC v σ H Q := fun σ H Q h => by
  obtain ⟨m, B, ρ, r, ρ', E, e, k⟩ := h
  cases e
  exact k v H B (Grow.refl m B) E (hv B)
theorem de_int {i j pos} : DE X (.Constant (.int i) j pos) (dC (.int i)) := ⟨PE.imp pe_int (tC_of fun _ => .int i)⟩
theorem de_bl {b j pos} : DE X (.Constant (.bool b) j pos) (dC (.bool b)) := ⟨PE.imp pe_bl (tC_of fun _ => .bl b)⟩
theorem de_non {j pos} : DE X (.Constant .none j pos) (dC .none) := ⟨PE.imp pe_non (tC_of fun _ => .non)⟩
theorem de_str {x j pos} : DE X (.Constant (.str x) j pos) (dC (.str x)) := ⟨PE.imp pe_str (tC_of fun _ => .str x)⟩
/-- a module's int -/
theorem de_glob {x : Str} {i : Int} {t : Tok} {pos : Pos} (hm : X.mg x = some (.int i t)) (hg : Gl X x := by rfl) (hd : (x == ("__debug__" : Str)) = false := by decide) : DE X (.Name x pos) (dC (.int i)) :=
  ⟨PE.imp (pe_glob hg hm (show RelV (.int i) _ from ⟨t, rfl⟩) hd) (tC_of fun _ => .int i)⟩
end

/-! ### two-place operations -/
def OpOk (r : R2) (g : D → D → Option ORes) : Prop := ∀ (B H : Hp) (x y : V) (dx dy : D) (o : ORes) (Q : VK), Same B H → Vw B H x dx → Vw B H y dy → g dx dy = some o → OPost B H o Q → r x y H Q
def dOp (g : D → D → Option ORes) (f1 f2 : SE) : SE := fun ρ =>
  (f1 ρ).bind fun p => (stab p.1).bind fun r1 => (f2 p.2).bind fun q => (dat q.2 r1).bind fun d1 => (dat q.2 q.1).bind fun d2 => (g d1 d2).bind fun o => some (o.r, q.2)
theorem bind_some' {α β : Type} {o : Option α} {f : α → Option β} {b : β} (h : o.bind f = some b) : ∃ a, o = some a ∧ f a = some b := Option.bind_eq_some_iff.mp h
section
variable {K : PySem.W.Frag} {m : Fm} {B B' H H' : Hp} {σ : L2.St} {ρ ρ' : Env} {v : V} {r : R} {s : Sl} {d : D}
/-- two operands, evaluated, the first kept -/
theorem two_of {f1 f2 : SE} {σ : L2.St} {H : Hp} {Q2 : V → V → Hp → Prop} (E : ERep K m B H σ ρ) {p : R × Env} {r1 : R} {q : R × Env} (h1 : f1 ρ = some p) (h2 : stab p.1 = some r1) (h3 : f2 p.2 = some q)
    (k : ∀ x y H2 B2, Grow m B B2 → ERep K m B2 H2 σ q.2 → RRep K m B2 H2 σ q.2 r1 x → RRep K m B2 H2 σ q.2 q.1 y → Q2 x y H2) : tD K f1 σ H fun x H1 => tD K f2 σ H1 fun y H2 => Q2 x y H2 := by
  refine ⟨m, B, ρ, p.1, p.2, E, h1, fun x H1 B1 g1 E1 R1 => ?_⟩
  obtain ⟨B1', g1', E1', R1', st⟩ := stab_ok E1 R1 h2
  refine ⟨m, B1', p.2, q.1, q.2, E1', h3, fun y H2 B2 g2 E2 R2 => ?_⟩
  exact k x y H2 B2 ((g1.trans g1').trans g2) E2 (st.up R1' g2.1) R2
theorem tOp_of {f1 f2 : SE} {g : D → D → Option ORes} {r : R2} (ok : OpOk r g) : ∀ σ H Q, tD K (dOp g f1 f2) σ H Q → tOp r (tD K f1) (tD K f2) σ H Q := fun σ H Q h => by
  obtain ⟨m, B, ρ, r0, ρ', E, e, k⟩ := h
  unfold dOp at e
  obtain ⟨p, h1, e⟩ := bind_some' e
  obtain ⟨r1, h2, e⟩ := bind_some' e
  obtain ⟨q, h3, e⟩ := bind_some' e
  obtain ⟨d1, h4, e⟩ := bind_some' e
  obtain ⟨d2, h5, e⟩ := bind_some' e
  obtain ⟨o, h6, e⟩ := bind_some' e
  cases e
  exact two_of (Q2 := fun x y H2 => r x y H2 Q) E h1 h2 h3 fun x y H2 B2 g2 E2 R1 R2 => ok B2 H2 x y d1 d2 o Q E2.bH (vw_ok E2 R1 h4) (vw_ok E2 R2 h5) h6 (opost E2 o fun v H' B' g' E' R' => k v H' B' (g2.trans g') E' R')
end
theorem OpOk.or1 {r r' : R2} {g : D → D → Option ORes} (h : OpOk r g) : OpOk (fun x y H Q => r x y H Q ∨ r' x y H Q) g := fun B H x y dx dy o Q e a b c d => .inl (h B H x y dx dy o Q e a b c d)
theorem OpOk.or2 {r r' : R2} {g : D → D → Option ORes} (h : OpOk r' g) : OpOk (fun x y H Q => r x y H Q ∨ r' x y H Q) g := fun B H x y dx dy o Q e a b c d => .inr (h B H x y dx dy o Q e a b c d)
def orElseO (g g' : D → D → Option ORes) : D → D → Option ORes := fun a b => match g a b with
  | some o => some o
  | none => g' a b
theorem OpOk.both {r r' : R2} {g g' : D → D → Option ORes} (h : OpOk r g) (h' : OpOk r' g') : OpOk (fun x y H Q => r x y H Q ∨ r' x y H Q) (orElseO g g') := fun B H x y dx dy o Q e a b c d => by
  unfold orElseO at c
  cases q : g dx dy with
  | some o' =>
    rw [q] at c
    cases c
    exact .inl (h B H x y dx dy o Q e a b q d)
  | none =>
    rw [q] at c
    exact .inr (h' B H x y dx dy o Q e a b c d)
/-- ints -/
def gI (C : Int → Int → Bool) (f : Int → Int → D) : D → D → Option ORes
  | .int i, .int j => if C i j then some (.vl (f i j)) else none
  | _, _ => none
theorem gI_inv {C : Int → Int → Bool} {f : Int → Int → D} {x y : D} {o : ORes} (h : gI C f x y = some o) : ∃ i j, x = .int i ∧ y = .int j ∧ C i j = true ∧ o = .vl (f i j) := by
  unfold gI at h
  split at h
  · rename_i i j
    split at h
    · rename_i hc
      cases h
      exact ⟨i, j, rfl, rfl, hc, rfl⟩
    · cases h
  · cases h
theorem vw_int {B H : Hp} {v : V} {i : Int} (h : Vw B H v (.int i)) : v = .int i := by
  have h : Rp B v (.int i) := h
  cases h
  rfl
theorem ok_I {C : Int → Int → Prop} {g : Int → Int → V} {Cb : Int → Int → Bool} {f : Int → Int → D} (hC : ∀ i j, Cb i j = true → C i j) (hf : ∀ B i j, Rp B (g i j) (f i j)) : OpOk (rI C g) (gI Cb f) := fun B H x y dx dy o Q e a b c d => by
  obtain ⟨i, j, rfl, rfl, hc, rfl⟩ := gI_inv c
  exact ⟨i, j, vw_int a, vw_int b, hC i j hc, d _ (hf B i j)⟩
theorem ok_I0 {g : Int → Int → V} {f : Int → Int → D} (hf : ∀ B i j, Rp B (g i j) (f i j)) : OpOk (rI0 g) (gI (fun _ _ => true) f) := fun B H x y dx dy o Q e a b c d => by
  obtain ⟨i, j, rfl, rfl, hc, rfl⟩ := gI_inv c
  exact ⟨i, j, vw_int a, vw_int b, d _ (hf B i j)⟩
abbrev gAddI := gI (fun _ _ => true) fun i j => .int (i + j)
abbrev gSub := gI (fun _ _ => true) fun i j => .int (i - j)
abbrev gMulI := gI (fun i j => decide ((-(2 ^ 64) < i ∧ i < 2 ^ 64) ∨ (-(2 ^ 64) < j ∧ j < 2 ^ 64))) fun i j => .int (i * j)
abbrev gDiv := gI (fun _ j => decide (0 < j ∧ j < 1073741824)) fun i j => .int (i / j)
abbrev gMod := gI (fun _ j => decide (0 < j)) fun i j => .int (i % j)
abbrev gPow := gI (fun i j => decide (0 ≤ j ∧ j ≤ 1000000 ∧ i.natAbs < 2 ^ 64)) fun i j => .int (i ^ j.toNat)
abbrev gLt := gI (fun _ _ => true) fun i j => .bool (decide (i < j))
abbrev gLe := gI (fun _ _ => true) fun i j => .bool (decide (i ≤ j))
abbrev gGt := gI (fun _ _ => true) fun i j => .bool (decide (j < i))
abbrev gGe := gI (fun _ _ => true) fun i j => .bool (decide (j ≤ i))
theorem ok_sub : OpOk (rI0 fun i j => .int (i - j)) gSub := ok_I0 fun _ _ _ => .int _
theorem ok_addI : OpOk (rI0 fun i j => .int (i + j)) gAddI := ok_I0 fun _ _ _ => .int _
theorem ok_mulI : OpOk (rI CMul fun i j => .int (i * j)) gMulI := ok_I (fun i j h => by have q := of_decide_eq_true h; exact q) fun _ _ _ => .int _
theorem ok_div : OpOk (rI CDiv fun i j => .int (i / j)) gDiv := ok_I (fun i j h => by have q := of_decide_eq_true h; exact q) fun _ _ _ => .int _
theorem ok_mod : OpOk (rI (fun _ j => 0 < j) fun i j => .int (i % j)) gMod := ok_I (fun i j h => by have q := of_decide_eq_true h; exact q) fun _ _ _ => .int _
theorem ok_pow : OpOk (rI CPow fun i j => .int (i ^ j.toNat)) gPow := ok_I (fun i j h => by have q := of_decide_eq_true h; exact q) fun _ _ _ => .int _
theorem ok_lt : OpOk (rI0 fun i j => .bl (decide (i < j))) gLt := ok_I0 fun _ _ _ => .bl _
theorem ok_le : OpOk (rI0 fun i j => .bl (decide (i ≤ j))) gLe := ok_I0 fun _ _ _ => .bl _
theorem ok_gt : OpOk (rI0 fun i j => .bl (decide (j < i))) gGt := ok_I0 fun _ _ _ => .bl _
theorem ok_ge : OpOk (rI0 fun i j => .bl (decide (j ≤ i))) gGe := ok_I0 fun _ _ _ => .bl _
/-- lists, tuples: + -/
def gCat : D → D → Option ORes
  | .list a, .list b => if a.length + b.length ≤ 16777216 then some (.ls (a ++ b)) else none
  | _, _ => none
def gCatT : D → D → Option ORes
  | .tuple a, .tuple b => if a.length + b.length ≤ 16777216 then some (.tp (a ++ b)) else none
  | _, _ => none
theorem line_of {n : Nat} (h : n ≤ 16777216) : n ≤ sizeLine := by
  rw [sizeLine_eq]
  exact h
theorem ok_cat : OpOk rCat gCat := fun B H x y dx dy o Q e a b c d => by
  unfold gCat at c
  split at c
  · rename_i ds es
    split at c
    · rename_i hl
      cases c
      obtain ⟨p, xs, rfl, h1, h2⟩ := a
      obtain ⟨q, ys, rfl, h3, h4⟩ := b
      exact ⟨p, q, xs, ys, rfl, rfl, h1, h3, line_of (by rw [h2.len, h4.len]; exact hl), fun z hz => d z _ hz (h2.app h4)⟩
    · cases c
  · cases c
theorem vw_tup {B H : Hp} {v : V} {ds : List D} (h : Vw B H v (.tuple ds)) : ∃ a xs, v = .ref a ∧ B a = some (.tup xs) ∧ Rps B xs ds := by
  have h : Rp B v (.tuple ds) := h
  cases h with
  | tup h1 h2 => exact ⟨_, _, rfl, h1, h2⟩
theorem ok_catT {K : PySem.W.Frag} : OpOk (rCatA K) gCatT := fun B H x y dx dy o Q e a b c d => by
  unfold gCatT at c
  split at c
  · rename_i ds es
    split at c
    · rename_i hl
      cases c
      obtain ⟨p, xs, rfl, h1, h2⟩ := vw_tup a
      obtain ⟨q, ys, rfl, h3, h4⟩ := vw_tup b
      refine ⟨p, q, xs, ys, rfl, rfl, SqT.of (e _ _ h1), SqT.of (e _ _ h3), line_of (by rw [h2.len, h4.len]; exact hl), fun hx => ?_, fun _ hy => ?_, fun _ _ z hz => d.2 z _ hz (h2.app h4)⟩
      · subst hx
        cases h2
        rw [List.nil_append] at d
        exact d.1 _ (.tup h3 h4)
      · subst hy
        cases h4
        rw [List.append_nil] at d
        exact d.1 _ (.tup h1 h2)
    · cases c
  · cases c
abbrev gAdd := orElseO gAddI (orElseO gCat gCatT)
def rAdd (K : PySem.W.Frag) : R2 := fun x y H Q => rI0 (fun i j => V.int (i + j)) x y H Q ∨ (fun x y H Q => rCat x y H Q ∨ rCatA K x y H Q) x y H Q
theorem ok_add {K : PySem.W.Frag} : OpOk (rAdd K) gAdd := OpOk.both ok_addI (OpOk.both ok_cat ok_catT)
theorem op_addAll {X : Cx} : OpR X (binaryOp .Add) (rAdd X.K) := OpR.or op_add (OpR.or op_cat op_catA)
def gRep : D → D → Option ORes
  | .list a, .int k => if -(2 ^ 63) ≤ k ∧ k < 2 ^ 63 ∧ a.length * k.toNat ≤ 16777216 then some (.ls (List.replicate k.toNat a).flatten) else none
  | _, _ => none
theorem ok_rep : OpOk rRep gRep := fun B H x y dx dy o Q e a b c d => by
  unfold gRep at c
  split at c
  · rename_i ds k
    split at c
    · rename_i hl
      cases c
      obtain ⟨p, xs, rfl, h1, h2⟩ := a
      exact ⟨p, k, xs, rfl, vw_int b, h1, hl.1, hl.2.1, line_of (by rw [h2.len]; exact hl.2.2), fun z hz => d z _ hz (h2.rep _)⟩
    · cases c
  · cases c
abbrev gMul := orElseO gMulI gRep
def rMul : R2 := fun x y H Q => rI CMul (fun i j => V.int (i * j)) x y H Q ∨ rRep x y H Q
theorem ok_mul : OpOk rMul gMul := OpOk.both ok_mulI ok_rep
theorem op_mulAll {X : Cx} : OpR X (binaryOp .Mult) rMul := OpR.or op_mul op_rep

section
variable {X : Cx} {a b c : Expr} {f1 f2 f3 : SE} {pos : Pos}
theorem de_bin {op : Operator} {r : R2} {g : D → D → Option ORes} (ho : OpR X (binaryOp op) r) (ok : OpOk r g) (ha : DE X a f1) (hb : DE X b f2) : DE X (.BinOp a op b pos) (dOp g f1 f2) := ⟨PE.imp (pe_op ho ha.pe hb.pe) (tOp_of ok)⟩
theorem de_add (ha : DE X a f1) (hb : DE X b f2) : DE X (.BinOp a .Add b pos) (dOp gAdd f1 f2) := de_bin op_addAll ok_add ha hb
theorem de_sub (ha : DE X a f1) (hb : DE X b f2) : DE X (.BinOp a .Sub b pos) (dOp gSub f1 f2) := de_bin op_sub ok_sub ha hb
theorem de_mul (ha : DE X a f1) (hb : DE X b f2) : DE X (.BinOp a .Mult b pos) (dOp gMul f1 f2) := de_bin op_mulAll ok_mul ha hb
theorem de_div (ha : DE X a f1) (hb : DE X b f2) : DE X (.BinOp a .FloorDiv b pos) (dOp gDiv f1 f2) := de_bin op_fdiv ok_div ha hb
theorem de_mod (ha : DE X a f1) (hb : DE X b f2) : DE X (.BinOp a .Mod b pos) (dOp gMod f1 f2) := de_bin op_mod ok_mod ha hb
theorem de_pow (ha : DE X a f1) (hb : DE X b f2) : DE X (.BinOp a .Pow b pos) (dOp gPow f1 f2) := de_bin op_pow ok_pow ha hb
end
/-! ### one-place -/
def dNeg (f : SE) : SE := fun ρ => (f ρ).bind fun p => match p.1 with
  | .val (.int i) => some (.val (.int (-i)), p.2)
  | _ => none
theorem de_neg {X : Cx} {a : Expr} {f : SE} {pos : Pos} (ha : DE X a f) : DE X (.UnaryOp .USub a pos) (dNeg f) := ⟨PE.imp (pe_un un_neg ha.pe) fun σ H Q h => by
  obtain ⟨m, B, ρ, r0, ρ', E, e, k⟩ := h
  obtain ⟨p, h1, e⟩ := bind_some' e
  split at e
  · rename_i i hi
    cases e
    refine ⟨m, B, ρ, p.1, p.2, E, h1, fun v H1 B1 g1 E1 R1 => ?_⟩
    rw [hi] at R1
    have R1 : Rp B1 v (.int i) := R1
    cases R1
    exact ⟨i, rfl, k _ H1 B1 g1 E1 (Rp.int _)⟩
  · cases e⟩

/-! ### comparisons -/
/-- flat data -/
def flatD : D → Bool
  | .none => true
  | .bool _ => true
  | .int _ => true
  | .str _ => true
  | _ => false
/-- == -/
def gEq : D → D → Option ORes := fun a b => if SeqAt.shaped a && SeqAt.shaped b then some (.vl (.bool (PyData.eqv a b))) else none
def gNe : D → D → Option ORes := fun a b => if SeqAt.shaped a && SeqAt.shaped b then some (.vl (.bool (!PyData.eqv a b))) else none
theorem vw_dp {K : PySem.W.Frag} {B H : Hp} {v : V} {d : D} (e : Same B H) (h : Vw B H v d) (hs : SeqAt.shaped d = true) : Dp K H v d := by
  cases d with
  | list ds =>
    obtain ⟨a, xs, rfl, h1, h2⟩ := h
    exact .lst (SqL.of h1) (Rps.dp _ _ (h2.up e))
  | dict kvs => cases hs
  | none => exact Rp.dp _ _ (Rp.up h e)
  | bool b => exact Rp.dp _ _ (Rp.up h e)
  | int i => exact Rp.dp _ _ (Rp.up h e)
  | str x => exact Rp.dp _ _ (Rp.up h e)
  | tuple ds => exact Rp.dp _ _ (Rp.up h e)
theorem ok_eq {K : PySem.W.Frag} : OpOk (rEqD K) gEq := fun B H x y dx dy o Q e a b c d => by
  unfold gEq at c
  split at c
  · rename_i hs
    cases c
    rw [Bool.and_eq_true] at hs
    exact ⟨dx, dy, vw_dp e a hs.1, vw_dp e b hs.2, hs.1, hs.2, d _ (.bl _)⟩
  · cases c
theorem ok_ne {K : PySem.W.Frag} : OpOk (rNeD K) gNe := fun B H x y dx dy o Q e a b c d => by
  unfold gNe at c
  split at c
  · rename_i hs
    cases c
    rw [Bool.and_eq_true] at hs
    exact ⟨dx, dy, vw_dp e a hs.1, vw_dp e b hs.2, hs.1, hs.2, d _ (.bl _)⟩
  · cases c
/-- x in a list or tuple of flat things -/
def gIn (neg : Bool) : D → D → Option ORes
  | x, .list ds => if flatD x && ds.all flatD then some (.vl (.bool (if neg then !(ds.any fun y => PyData.eqv y x) else ds.any fun y => PyData.eqv y x))) else none
  | x, .tuple ds => if flatD x && ds.all flatD then some (.vl (.bool (if neg then !(ds.any fun y => PyData.eqv y x) else ds.any fun y => PyData.eqv y x))) else none
  | _, _ => none
theorem flat_of {B : Hp} {v : V} {d : D} (h : Rp B v d) (hf : flatD d = true) : flatV v = true := by
  cases h <;> first | rfl | cases hf
theorem eqV_of {B : Hp} {v w : V} {d e : D} (h : Rp B v d) (g : Rp B w e) (hf : flatD d = true) (hg : flatD e = true) : eqV v w = PyData.eqv d e := by
  cases h <;> cases g <;> first | rfl | cases hf | cases hg
theorem inV_of {B : Hp} {v : V} {d : D} (h : Rp B v d) (hf : flatD d = true) : ∀ {vs : List V} {ds : List D}, Rps B vs ds → ds.all flatD = true → vs.all flatV = true ∧ inV v vs = ds.any fun y => PyData.eqv y d
  | _, _, .nil, _ => ⟨rfl, rfl⟩
  | _, _, .cons r t, ha => by
    rw [List.all_cons, Bool.and_eq_true] at ha
    obtain ⟨i1, i2⟩ := inV_of h hf t ha.2
    refine ⟨by rw [List.all_cons, flat_of r ha.1, i1]; rfl, ?_⟩
    unfold inV at i2 ⊢
    rw [List.any_cons, List.any_cons, eqV_of r h ha.1 hf, i2]
theorem vw_flat {B H : Hp} {v : V} {d : D} (h : Vw B H v d) (hf : flatD d = true) : Rp B v d := by
  cases d <;> first | exact h | cases hf
theorem ok_in {K : PySem.W.Frag} {neg : Bool} : OpOk (rIn K neg) (gIn neg) := fun B H x y dx dy o Q e a b c d => by
  unfold gIn at c
  split at c
  · rename_i ds
    split at c
    · rename_i hf
      cases c
      rw [Bool.and_eq_true] at hf
      obtain ⟨p, xs, rfl, h1, h2⟩ := b
      have hx := vw_flat a hf.1
      obtain ⟨i1, i2⟩ := inV_of hx hf.1 h2 hf.2
      refine ⟨p, xs, rfl, .inl (SqL.of h1), flat_of hx hf.1, i1, ?_⟩
      rw [i2]
      exact d _ (.bl _)
    · cases c
  · rename_i ds
    split at c
    · rename_i hf
      cases c
      rw [Bool.and_eq_true] at hf
      obtain ⟨p, xs, rfl, h1, h2⟩ := vw_tup b
      have hx := vw_flat a hf.1
      obtain ⟨i1, i2⟩ := inV_of hx hf.1 h2 hf.2
      refine ⟨p, xs, rfl, .inr (SqT.of (e _ _ h1)), flat_of hx hf.1, i1, ?_⟩
      rw [i2]
      exact d _ (.bl _)
    · cases c
  · cases c
/-- is None -/
def isNoneD : D → Bool
  | .none => true
  | _ => false
def gIsN : D → D → Option ORes
  | x, .none => some (.vl (.bool (isNoneD x)))
  | _, _ => none
def gNotN : D → D → Option ORes
  | x, .none => some (.vl (.bool (!isNoneD x)))
  | _, _ => none
theorem isN_of {B H : Hp} {v : V} {d : D} (h : Vw B H v d) : decide (v = .non) = isNoneD d := by
  cases d with
  | list ds => obtain ⟨a, xs, rfl, _⟩ := h; rfl
  | dict kvs => obtain ⟨a, xs, rfl, _⟩ := h; rfl
  | none => have h : Rp B v .none := h; cases h; rfl
  | bool b => have h : Rp B v (.bool b) := h; cases h; rfl
  | int i => have h : Rp B v (.int i) := h; cases h; rfl
  | str x => have h : Rp B v (.str x) := h; cases h; rfl
  | tuple ds => obtain ⟨a, xs, rfl, _⟩ := vw_tup h; rfl
theorem ok_isN : OpOk (fun x y H Q => y = .non ∧ Q (.bl (decide (x = .non))) H) gIsN := fun B H x y dx dy o Q e a b c d => by
  unfold gIsN at c
  split at c
  · cases c
    have b : Rp B y .none := b
    cases b
    refine ⟨rfl, ?_⟩
    rw [isN_of a]
    exact d _ (.bl _)
  · cases c
theorem ok_notN : OpOk (fun x y H Q => y = .non ∧ Q (.bl (!decide (x = .non))) H) gNotN := fun B H x y dx dy o Q e a b c d => by
  unfold gNotN at c
  split at c
  · cases c
    have b : Rp B y .none := b
    cases b
    refine ⟨rfl, ?_⟩
    rw [isN_of a]
    exact d _ (.bl _)
  · cases c
/-- is True, is not True -/
def gIsB : D → D → Option ORes
  | .bool a, .bool b => some (.vl (.bool (decide (a = b))))
  | _, _ => none
def gNotB : D → D → Option ORes
  | .bool a, .bool b => some (.vl (.bool (!decide (a = b))))
  | _, _ => none
theorem vw_bool {B H : Hp} {v : V} {b : Bool} (h : Vw B H v (.bool b)) : v = .bl b := by
  have h : Rp B v (.bool b) := h
  cases h
  rfl
theorem ok_isB : OpOk (fun x y H Q => ∃ a b, x = .bl a ∧ y = .bl b ∧ Q (.bl (decide (a = b))) H) gIsB := fun B H x y dx dy o Q e a b c d => by
  unfold gIsB at c
  split at c
  · cases c
    exact ⟨_, _, vw_bool a, vw_bool b, d _ (.bl _)⟩
  · cases c
theorem ok_notB : OpOk (fun x y H Q => ∃ a b, x = .bl a ∧ y = .bl b ∧ Q (.bl (!decide (a = b))) H) gNotB := fun B H x y dx dy o Q e a b c d => by
  unfold gNotB at c
  split at c
  · cases c
    exact ⟨_, _, vw_bool a, vw_bool b, d _ (.bl _)⟩
  · cases c

/-! ### tests -/
def dTest (f : SE) : ST := fun ρ => (f ρ).bind fun p => match p.1 with
  | .val (.bool b) => some (b, p.2)
  | _ => none
section
variable {K : PySem.W.Frag}
theorem dTest_inv {f : SE} {ρ ρ' : Env} {b : Bool} (e : dTest f ρ = some (b, ρ')) : f ρ = some (.val (.bool b), ρ') := by
  unfold dTest at e
  obtain ⟨p, h1, e⟩ := bind_some' e
  split at e
  · rename_i b' hb
    cases e
    rw [h1, ← hb]
  · cases e
theorem tTest_of {f : SE} {t : TE} (h : ∀ σ H Q, tD K f σ H Q → t σ H Q) : ∀ σ H (Q : Bool → Hp → Prop), tT K (dTest f) σ H Q → t σ H fun x H' => ∃ k, x = .bl k ∧ Q k H' := fun σ H Q q => by
  obtain ⟨m, B, ρ, b, ρ', E, e, k⟩ := q
  refine h σ H _ ⟨m, B, ρ, _, ρ', E, dTest_inv e, fun v H' B' g E' R' => ?_⟩
  have R' : Rp B' v (.bool b) := R'
  cases R'
  exact ⟨b, rfl, k H' B' g E'⟩
end
section
variable {X : Cx} {a b c : Expr} {f1 f2 f3 : SE} {pos : Pos}
theorem de_cmp {op : CmpOp} {r : R2} {g : D → D → Option ORes} (ho : OpR X (compareOp op) r) (ok : OpOk r g) (ha : DE X a f1) (hb : DE X b f2) (hm : behindInMarks op b = false) : DE X (.Compare a [op] [b] pos) (dOp g f1 f2) :=
  ⟨PE.imp (pe_cmpR ho ha.pe hb.pe hm) (tOp_of ok)⟩
theorem dt_cmp {op : CmpOp} {r : R2} {g : D → D → Option ORes} (ho : OpR X (compareOp op) r) (ok : OpOk r g) (ha : DE X a f1) (hb : DE X b f2) (hm : behindInMarks op b = false) : DT X (.Compare a [op] [b] pos) (dTest (dOp g f1 f2)) :=
  ⟨PT.imp (pt_cmpR ho ha.pe hb.pe hm) (tTest_of (tOp_of ok))⟩
/-- any expression that gives a bool -/
theorem dt_val {e : Expr} {f : SE} (h : DE X e f) (he : ∀ whole, isTrue e X.env whole = (do let v ← whole; standAt e.pos; holding [v] (truthy v)) := by intro _; rfl) : DT X e (dTest f) :=
  ⟨PT.imp (pt_val h.pe he) (tTest_of fun _ _ _ q => q)⟩
end
/-- the truth of a thing -/
def truD : D → Option Bool
  | .none => some false
  | .bool b => some b
  | .int i => some (i != 0)
  | .list ds => some (!ds.isEmpty)
  | .tuple ds => some (!ds.isEmpty)
  | .dict kvs => some (!kvs.isEmpty)
  | .str _ => none
def dTruth (f : SE) : ST := fun ρ => (f ρ).bind fun p => (dat p.2 p.1).bind fun d => (truD d).bind fun b => some (b, p.2)
theorem emp_rps {B : Hp} : ∀ {vs : List V} {ds : List D}, Rps B vs ds → vs.isEmpty = ds.isEmpty
  | _, _, .nil => rfl
  | _, _, .cons _ _ => rfl
theorem tru_of {K : PySem.W.Frag} {B H : Hp} {v : V} {d : D} {b : Bool} (e : Same B H) (h : Vw B H v d) (hb : truD d = some b) : TruV K v H b := by
  cases d with
  | list ds =>
    obtain ⟨a, xs, rfl, h1, h2⟩ := h
    cases hb
    exact .inl ⟨xs, SqL.of h1, by rw [emp_rps h2]⟩
  | dict kvs =>
    obtain ⟨a, xs, rfl, h1, h2⟩ := h
    cases hb
    refine .inr (.inr ⟨xs, h1, ?_⟩)
    cases h2 <;> rfl
  | none => have h : Rp B v .none := h; cases h; cases hb; rfl
  | bool b => have h : Rp B v (.bool b) := h; cases h; cases hb; rfl
  | int i => have h : Rp B v (.int i) := h; cases h; cases hb; rfl
  | str x => cases hb
  | tuple ds =>
    obtain ⟨a, xs, rfl, h1, h2⟩ := vw_tup h
    cases hb
    exact .inr (.inl ⟨xs, SqT.of (e _ _ h1), by rw [emp_rps h2]⟩)
section
variable {X : Cx} {a b c : Expr} {f1 f2 f3 : SE} {pos : Pos} {h1 h2 : ST} {rest : List Expr}
theorem dt_truth {e : Expr} {f : SE} (h : DE X e f) (he : ∀ whole, isTrue e X.env whole = (do let v ← whole; standAt e.pos; holding [v] (truthy v)) := by intro _; rfl) : DT X e (dTruth f) := ⟨PT.imp (pt_truth h.pe he) fun σ H Q q => by
  obtain ⟨m, B, ρ, b, ρ', E, e, k⟩ := q
  unfold dTruth at e
  obtain ⟨p, h1, e⟩ := bind_some' e
  obtain ⟨d, h2, e⟩ := bind_some' e
  obtain ⟨b', h3, e⟩ := bind_some' e
  cases e
  exact ⟨m, B, ρ, p.1, p.2, E, h1, fun v H1 B1 g1 E1 R1 => ⟨b, tru_of E1.bH (vw_ok E1 R1 h2) h3, k H1 B1 g1 E1⟩⟩⟩
def hAnd (h1 h2 : ST) : ST := fun ρ => (h1 ρ).bind fun p => if p.1 then h2 p.2 else some (false, p.2)
def hOr (h1 h2 : ST) : ST := fun ρ => (h1 ρ).bind fun p => if p.1 then some (true, p.2) else h2 p.2
def hNot (h1 : ST) : ST := fun ρ => (h1 ρ).bind fun p => some (!p.1, p.2)
theorem dw_and1 (ha : DT X a h1) : DW X (.BoolOp .And [a] pos) h1 := ⟨pw_and1 ha.pt⟩
theorem dw_or1 (ha : DT X a h1) : DW X (.BoolOp .Or [a] pos) h1 := ⟨pw_or1 ha.pt⟩
theorem dw_and (ha : DT X a h1) (hb : DW X (.BoolOp .And (b :: rest) pos) h2) : DW X (.BoolOp .And (a :: b :: rest) pos) (hAnd h1 h2) := ⟨PW.imp (pw_and ha.pt hb.pw) fun σ H Q q => by
  obtain ⟨m, B, ρ, b0, ρ', E, e, k⟩ := q
  obtain ⟨p, g1, e⟩ := bind_some' e
  refine ⟨m, B, ρ, p.1, p.2, E, g1, fun H1 B1 g E1 => ?_⟩
  cases hp : p.1 with
  | true =>
    rw [hp] at e
    exact ⟨m, B1, p.2, b0, ρ', E1, e, fun H2 B2 g2 E2 => k H2 B2 (g.trans g2) E2⟩
  | false =>
    rw [hp] at e
    cases e
    exact k H1 B1 g E1⟩
theorem dw_or (ha : DT X a h1) (hb : DW X (.BoolOp .Or (b :: rest) pos) h2) : DW X (.BoolOp .Or (a :: b :: rest) pos) (hOr h1 h2) := ⟨PW.imp (pw_or ha.pt hb.pw) fun σ H Q q => by
  obtain ⟨m, B, ρ, b0, ρ', E, e, k⟩ := q
  obtain ⟨p, g1, e⟩ := bind_some' e
  refine ⟨m, B, ρ, p.1, p.2, E, g1, fun H1 B1 g E1 => ?_⟩
  cases hp : p.1 with
  | true =>
    rw [hp] at e
    cases e
    exact k H1 B1 g E1
  | false =>
    rw [hp] at e
    exact ⟨m, B1, p.2, b0, ρ', E1, e, fun H2 B2 g2 E2 => k H2 B2 (g.trans g2) E2⟩⟩
theorem dt_w {e : Expr} {h : ST} (w : DW X e h) : DT X e h := ⟨w.pw.pt⟩
theorem dt_not (ha : DT X a h1) : DT X (.UnaryOp .Not a pos) (hNot h1) := ⟨PT.imp (pt_not ha.pt) fun σ H Q q => by
  obtain ⟨m, B, ρ, b0, ρ', E, e, k⟩ := q
  obtain ⟨p, g1, e⟩ := bind_some' e
  cases e
  exact ⟨m, B, ρ, p.1, p.2, E, g1, fun H1 B1 g E1 => k H1 B1 g E1⟩⟩
/-- as values -/
def dAnd (f1 f2 : SE) : SE := fun ρ => (dTest f1 ρ).bind fun p => if p.1 then f2 p.2 else some (.val (.bool false), p.2)
def dOr (f1 f2 : SE) : SE := fun ρ => (dTest f1 ρ).bind fun p => if p.1 then some (.val (.bool true), p.2) else f2 p.2
def dNot (f1 : SE) : SE := fun ρ => (dTest f1 ρ).bind fun p => some (.val (.bool (!p.1)), p.2)
theorem de_one {op} (h : DE X a f1) : DE X (.BoolOp op [a] pos) f1 := ⟨pe_one h.pe⟩
theorem de_and (ha : DE X a f1) (hb : DE X (.BoolOp .And (b :: rest) pos) f2) : DE X (.BoolOp .And (a :: b :: rest) pos) (dAnd f1 f2) := ⟨PE.imp (pe_and ha.pe hb.pe) fun σ H Q q => by
  obtain ⟨m, B, ρ, r0, ρ', E, e, k⟩ := q
  obtain ⟨p, g1, e⟩ := bind_some' e
  refine ⟨m, B, ρ, _, p.2, E, dTest_inv (b := p.1) g1, fun v H1 B1 g E1 R1 => ?_⟩
  have R1 : Rp B1 v (.bool p.1) := R1
  cases R1
  refine ⟨p.1, rfl, ?_⟩
  cases hp : p.1 with
  | true =>
    rw [hp] at e
    exact ⟨m, B1, p.2, r0, ρ', E1, e, fun v H2 B2 g2 E2 R2 => k v H2 B2 (g.trans g2) E2 R2⟩
  | false =>
    rw [hp] at e
    cases e
    exact k _ H1 B1 g E1 (Rp.bl false)⟩
theorem de_or (ha : DE X a f1) (hb : DE X (.BoolOp .Or (b :: rest) pos) f2) : DE X (.BoolOp .Or (a :: b :: rest) pos) (dOr f1 f2) := ⟨PE.imp (pe_or ha.pe hb.pe) fun σ H Q q => by
  obtain ⟨m, B, ρ, r0, ρ', E, e, k⟩ := q
  obtain ⟨p, g1, e⟩ := bind_some' e
  refine ⟨m, B, ρ, _, p.2, E, dTest_inv (b := p.1) g1, fun v H1 B1 g E1 R1 => ?_⟩
  have R1 : Rp B1 v (.bool p.1) := R1
  cases R1
  refine ⟨p.1, rfl, ?_⟩
  cases hp : p.1 with
  | true =>
    rw [hp] at e
    cases e
    exact k _ H1 B1 g E1 (Rp.bl true)
  | false =>
    rw [hp] at e
    exact ⟨m, B1, p.2, r0, ρ', E1, e, fun v H2 B2 g2 E2 R2 => k v H2 B2 (g.trans g2) E2 R2⟩⟩
theorem de_not (ha : DE X a f1) : DE X (.UnaryOp .Not a pos) (dNot f1) := ⟨PE.imp (pe_not ha.pe) fun σ H Q q => by
  obtain ⟨m, B, ρ, r0, ρ', E, e, k⟩ := q
  obtain ⟨p, g1, e⟩ := bind_some' e
  cases e
  refine ⟨m, B, ρ, _, p.2, E, dTest_inv (b := p.1) g1, fun v H1 B1 g E1 R1 => ?_⟩
  have R1 : Rp B1 v (.bool p.1) := R1
  cases R1
  exact ⟨p.1, rfl, k _ H1 B1 g E1 (Rp.bl _)⟩⟩
def dIf (h : ST) (f1 f2 : SE) : SE := fun ρ => (h ρ).bind fun p => if p.1 then f1 p.2 else f2 p.2
theorem de_if (hc : DT X c h1) (ha : DE X a f1) (hb : DE X b f2) : DE X (.IfExp c a b pos) (dIf h1 f1 f2) := ⟨PE.imp (pe_ifExp hc.pt ha.pe hb.pe) fun σ H Q q => by
  obtain ⟨m, B, ρ, r0, ρ', E, e, k⟩ := q
  obtain ⟨p, g1, e⟩ := bind_some' e
  refine ⟨m, B, ρ, p.1, p.2, E, g1, fun H1 B1 g E1 => ?_⟩
  cases hp : p.1 with
  | true =>
    rw [hp] at e
    exact ⟨m, B1, p.2, r0, ρ', E1, e, fun v H2 B2 g2 E2 R2 => k v H2 B2 (g.trans g2) E2 R2⟩
  | false =>
    rw [hp] at e
    exact ⟨m, B1, p.2, r0, ρ', E1, e, fun v H2 B2 g2 E2 R2 => k v H2 B2 (g.trans g2) E2 R2⟩⟩
/-- a op1 b op2 c -/
def dChain (g g' : D → D → Option ORes) (f1 f2 f3 : SE) : SE := fun ρ =>
  (f1 ρ).bind fun p => (stab p.1).bind fun r1 => (f2 p.2).bind fun q => (stab q.1).bind fun r2 => (dat q.2 r1).bind fun d1 => (dat q.2 r2).bind fun d2 => (g d1 d2).bind fun o => match o with
    | .vl (.bool k) => if k then (f3 q.2).bind fun w => (dat w.2 r2).bind fun d2' => (dat w.2 w.1).bind fun d3 => (g' d2' d3).bind fun o' => some (o'.r, w.2) else some (.val (.bool false), q.2)
    | _ => none
theorem tChain_of {K : PySem.W.Frag} {r r' : R2} {g g' : D → D → Option ORes} (ok : OpOk r g) (ok' : OpOk r' g') : ∀ σ H Q, tD K (dChain g g' f1 f2 f3) σ H Q → tChain r r' (tD K f1) (tD K f2) (tD K f3) σ H Q := fun σ H Q h => by
  obtain ⟨m, B, ρ, r0, ρ', E, e, k⟩ := h
  unfold dChain at e
  obtain ⟨p, h1, e⟩ := bind_some' e
  obtain ⟨r1, h2, e⟩ := bind_some' e
  obtain ⟨q, h3, e⟩ := bind_some' e
  obtain ⟨r2, h4, e⟩ := bind_some' e
  obtain ⟨d1, h5, e⟩ := bind_some' e
  obtain ⟨d2, h6, e⟩ := bind_some' e
  obtain ⟨o, h7, e⟩ := bind_some' e
  refine ⟨m, B, ρ, p.1, p.2, E, h1, fun x H1 B1 g1 E1 R1 => ?_⟩
  obtain ⟨B1', g1', E1', R1', st1⟩ := stab_ok E1 R1 h2
  refine ⟨m, B1', p.2, q.1, q.2, E1', h3, fun y H2 B2 g2 E2 R2 => ?_⟩
  obtain ⟨B2', g2', E2', R2', st2⟩ := stab_ok E2 R2 h4
  have R1'' := st1.up (H' := H2) (ρ' := q.2) R1' (g2.1.trans g2'.1)
  refine ok B2' H2 x y d1 d2 o _ E2'.bH (vw_ok E2' R1'' h5) (vw_ok E2' R2' h6) h7 ?_
  split at e
  · rename_i kk
    refine fun z hz => ?_
    cases hz
    refine ⟨kk, rfl, ?_⟩
    cases kk with
    | true =>
      rw [if_pos rfl] at e ⊢
      obtain ⟨w, i1, e⟩ := bind_some' e
      obtain ⟨d2', i2, e⟩ := bind_some' e
      obtain ⟨d3, i3, e⟩ := bind_some' e
      obtain ⟨o', i4, e⟩ := bind_some' e
      cases e
      refine ⟨m, B2', q.2, w.1, w.2, E2', i1, fun u H3 B3 g3 E3 R3 => ?_⟩
      exact ok' B3 H3 y u d2' d3 o' Q E3.bH (vw_ok E3 (st2.up R2' g3.1) i2) (vw_ok E3 R3 i3) i4 (opost E3 o' fun v H' B' g' E' R' => k v H' B' (((((g1.trans g1').trans g2).trans g2').trans g3).trans g') E' R')
    | false =>
      rw [if_neg Bool.false_ne_true] at e ⊢
      cases e
      exact k _ H2 B2' (((g1.trans g1').trans g2).trans g2') E2' (Rp.bl false)
  · cases e
theorem de_chain {op op' : CmpOp} {r r' : R2} {g g' : D → D → Option ORes} (ho : OpR X (compareOp op) r) (ho' : OpR X (compareOp op') r') (ok : OpOk r g) (ok' : OpOk r' g') (ha : DE X a f1) (hb : DE X b f2) (hc : DE X c f3)
    (hm : lastMarks [op, op'] [b, c] = false := by with_unfolding_all rfl) : DE X (.Compare a [op, op'] [b, c] pos) (dChain g g' f1 f2 f3) := ⟨PE.imp (pe_chain ho ho' ha.pe hb.pe hc.pe hm) (tChain_of ok ok')⟩
theorem dt_chain {op op' : CmpOp} {r r' : R2} {g g' : D → D → Option ORes} (ho : OpR X (compareOp op) r) (ho' : OpR X (compareOp op') r') (ok : OpOk r g) (ok' : OpOk r' g') (ha : DE X a f1) (hb : DE X b f2) (hc : DE X c f3)
    (hm : lastMarks [op, op'] [b, c] = false := by with_unfolding_all rfl) : DT X (.Compare a [op, op'] [b, c] pos) (dTest (dChain g g' f1 f2 f3)) := ⟨PT.imp (pt_chain ho ho' ha.pe hb.pe hc.pe hm) (tTest_of (tChain_of ok ok'))⟩
end
end DL

namespace DL
open PySem PySem.Spec PyProof.Rows L2

/-! ### argument lists -/
def aNil : SA := fun ρ => some ([], ρ)
/-- kept as it is (for built-ins) -/
def aCons (f : SE) (g : SA) : SA := fun ρ => (f ρ).bind fun p => (stab p.1).bind fun r => (g p.2).bind fun q => some (r :: q.1, q.2)
/-- as data (for displays, calls) -/
def aVal (f : SE) (g : SA) : SA := fun ρ => (f ρ).bind fun p => (settle p.1 p.2).bind fun w => (g w.2).bind fun q => some (.val w.1 :: q.1, q.2)
section
variable {K : PySem.W.Frag} {m : Fm} {B B' H H' : Hp} {σ : L2.St} {ρ ρ' : Env} {v : V} {r : R} {s : Sl} {d : D}
def AllStay : List R → Prop
  | [] => True
  | r :: rs => Stays r ∧ AllStay rs
end
section
variable {X : Cx} {e : Expr} {es : List Expr} {f : SE} {g : SA}
theorem da_nil : DA X [] aNil := ⟨PA.imp pa_nil fun σ H Q h => by
  obtain ⟨m, B, ρ, rs, ρ', E, e, k⟩ := h
  cases e
  exact k [] H B (Grow.refl m B) E rfl⟩
theorem da_cons (hf : DE X e f) (hg : DA X es g) (hs : starEach (e :: es) X.env = (false, eval e X.env) :: starEach es X.env := by rfl) : DA X (e :: es) (aCons f g) := ⟨PA.imp (pa_cons hf.pe hg.pa hs) fun σ H Q h => by
  obtain ⟨m, B, ρ, rs, ρ', E, e, k⟩ := h
  obtain ⟨p, h1, e⟩ := bind_some' e
  obtain ⟨r, h2, e⟩ := bind_some' e
  obtain ⟨q, h3, e⟩ := bind_some' e
  cases e
  refine ⟨m, B, ρ, p.1, p.2, E, h1, fun x H1 B1 g1 E1 R1 => ?_⟩
  obtain ⟨B1', g1', E1', R1', st⟩ := stab_ok E1 R1 h2
  refine ⟨m, B1', p.2, q.1, q.2, E1', h3, fun vs H2 B2 g2 E2 R2 => ?_⟩
  exact k (x :: vs) H2 B2 ((g1.trans g1').trans g2) E2 ⟨x, vs, rfl, st.up R1' g2.1, R2⟩⟩
theorem da_val (hf : DE X e f) (hg : DA X es g) (hs : starEach (e :: es) X.env = (false, eval e X.env) :: starEach es X.env := by rfl) : DA X (e :: es) (aVal f g) := ⟨PA.imp (pa_cons hf.pe hg.pa hs) fun σ H Q h => by
  obtain ⟨m, B, ρ, rs, ρ', E, e, k⟩ := h
  obtain ⟨p, h1, e⟩ := bind_some' e
  obtain ⟨w, h2, e⟩ := bind_some' e
  obtain ⟨q, h3, e⟩ := bind_some' e
  cases e
  refine ⟨m, B, ρ, p.1, p.2, E, h1, fun x H1 B1 g1 E1 R1 => ?_⟩
  obtain ⟨B1', g1', E1', R1'⟩ := settle_ok E1 R1 h2
  refine ⟨m, B1', w.2, q.1, q.2, E1', h3, fun vs H2 B2 g2 E2 R2 => ?_⟩
  exact k (x :: vs) H2 B2 ((g1.trans g1').trans g2) E2 ⟨x, vs, rfl, Rp.up R1' g2.1, R2⟩⟩
end
/-- all of them as data, now -/
def dats (ρ : Env) : List R → Option (List D)
  | [] => some []
  | r :: rs => (dat ρ r).bind fun d => (dats ρ rs).bind fun ds => some (d :: ds)
theorem vws_ok {K : PySem.W.Frag} {m : Fm} {B H : Hp} {σ : L2.St} {ρ : Env} (E : ERep K m B H σ ρ) : ∀ {rs : List R} {vs : List V} {ds : List D}, RReps K m B H σ ρ rs vs → dats ρ rs = some ds → Vws B H vs ds
  | [], vs, ds, h, e => by
    cases e
    exact h
  | r :: rs, vs, ds, h, e => by
    obtain ⟨v, ws, rfl, h1, h2⟩ := h
    obtain ⟨d, e1, e⟩ := bind_some' e
    obtain ⟨ds', e2, e⟩ := bind_some' e
    cases e
    exact ⟨v, ws, rfl, vw_ok E h1 e1, vws_ok E h2 e2⟩
/-- all of them settled data -/
def vals : List R → Option (List D)
  | [] => some []
  | .val d :: rs => (vals rs).bind fun ds => some (d :: ds)
  | _ :: _ => none
theorem vals_ok {K : PySem.W.Frag} {m : Fm} {B H : Hp} {σ : L2.St} {ρ : Env} : ∀ {rs : List R} {vs : List V} {ds : List D}, RReps K m B H σ ρ rs vs → vals rs = some ds → Rps B vs ds
  | [], vs, ds, h, e => by
    cases e
    have h : vs = [] := h
    rw [h]
    exact .nil
  | .val d :: rs, vs, ds, h, e => by
    obtain ⟨v, ws, rfl, h1, h2⟩ := h
    obtain ⟨ds', e2, e⟩ := bind_some' e
    cases e
    exact .cons h1 (vals_ok h2 e2)
  | .new _ :: rs, vs, ds, h, e => by cases e
  | .at _ :: rs, vs, ds, h, e => by cases e

/-! ### built-ins by name -/
def CallOk (r : List V → Hp → VK → Prop) (g : List D → Option ORes) : Prop := ∀ (B H : Hp) (vs : List V) (ds : List D) (o : ORes) (Q : VK), Same B H → Vws B H vs ds → g ds = some o → OPost B H o Q → r vs H Q
def dCB (g : List D → Option ORes) (a : SA) : SE := fun ρ => (a ρ).bind fun p => (dats p.2 p.1).bind fun ds => (g ds).bind fun o => some (o.r, p.2)
theorem tCB_of {K : PySem.W.Frag} {r : List V → Hp → VK → Prop} {g : List D → Option ORes} {a : SA} (ok : CallOk r g) : ∀ σ H Q, tD K (dCB g a) σ H Q → tCB r (tA K a) σ H Q := fun σ H Q h => by
  obtain ⟨m, B, ρ, r0, ρ', E, e, k⟩ := h
  obtain ⟨p, h1, e⟩ := bind_some' e
  obtain ⟨ds, h2, e⟩ := bind_some' e
  obtain ⟨o, h3, e⟩ := bind_some' e
  cases e
  exact ⟨m, B, ρ, p.1, p.2, E, h1, fun vs H1 B1 g1 E1 R1 => ok B1 H1 vs ds o Q E1.bH (vws_ok E1 R1 h2) h3 (opost E1 o fun v H' B' g' E' R' => k v H' B' (g1.trans g') E' R')⟩
section
variable {X : Cx} {x : Str} {p pos : Pos} {e : Expr} {es : List Expr} {a : SA} {id T : String} {r : List V → Hp → VK → Prop} {g : List D → Option ORes}
theorem de_cb (hc : CallR X (.builtin id) r) (ok : CallOk r g) (hm : X.mg x = none) (hv : bootBuiltins x = some (.builtin id)) (ha : DA X (e :: es) a) (hg : Gl X x := by rfl) (hn : x ≠ "__name__" := by decide) (hdb : (x == ("__debug__" : Str)) = false := by decide)
    (he : starEach (e :: es) X.env = (false, eval e X.env) :: starEach es X.env := by rfl) (hpl : (backTo pos (starEach es X.env)).any (·.1) = false := by rfl) : DE X (.Call (.Name x p) (e :: es) [] pos) (dCB g a) :=
  ⟨PE.imp (pe_callB hc hg hm hv ha.pa hn hdb he hpl) (tCB_of ok)⟩
theorem de_ct (hc : CallR X (.type T) r) (ok : CallOk r g) (hm : X.mg x = none) (hv : bootBuiltins x = some (.type T)) (ha : DA X (e :: es) a) (hg : Gl X x := by rfl) (hn : x ≠ "__name__" := by decide) (hdb : (x == ("__debug__" : Str)) = false := by decide)
    (he : starEach (e :: es) X.env = (false, eval e X.env) :: starEach es X.env := by rfl) (hpl : (backTo pos (starEach es X.env)).any (·.1) = false := by rfl) : DE X (.Call (.Name x p) (e :: es) [] pos) (dCB g a) :=
  ⟨PE.imp (pe_callTy hc hg hm hv ha.pa hn hdb he hpl) (tCB_of ok)⟩
end
theorem vws1 {B H : Hp} {vs : List V} {d : D} (h : Vws B H vs [d]) : ∃ v, vs = [v] ∧ Vw B H v d := by
  obtain ⟨v, ws, rfl, h1, h2⟩ := h
  have h2 : ws = [] := h2
  exact ⟨v, by rw [h2], h1⟩
theorem vws2 {B H : Hp} {vs : List V} {d e : D} (h : Vws B H vs [d, e]) : ∃ v w, vs = [v, w] ∧ Vw B H v d ∧ Vw B H w e := by
  obtain ⟨v, ws, rfl, h1, h2⟩ := h
  obtain ⟨w, rfl, h3⟩ := vws1 h2
  exact ⟨v, w, rfl, h1, h3⟩
/-- len -/
def gLen : List D → Option ORes
  | [.list ds] => some (.vl (.int (ds.length : Nat)))
  | [.tuple ds] => some (.vl (.int (ds.length : Nat)))
  | [.dict kvs] => some (.vl (.int (kvs.length : Nat)))
  | _ => none
def rLenA (K : PySem.W.Frag) : List V → Hp → VK → Prop := fun xs H Q => (∃ p ys, xs = [.ref p] ∧ (SqL K H p ys ∨ SqT K H p ys) ∧ Q (.int ys.length) H) ∨ ∃ a kvs, xs = [.ref a] ∧ Rd H a (.dK kvs) ∧ Q (.int (kvs.length : Nat)) H
theorem call_lenK {X : Cx} : CallR X (.builtin "len") (fun xs H Q => ∃ a kvs, xs = [.ref a] ∧ Rd H a (.dK kvs) ∧ Q (.int (kvs.length : Nat)) H) := by
  intro pins s σ H xs us Q I r h
  obtain ⟨a, kvs, rfl, hd, q⟩ := h
  rw [Vals.ref1 r]
  exact d_len I hd fun t s' I' => ⟨.int (kvs.length : Nat), H, I', ⟨t, rfl⟩, q⟩
theorem call_lenA {X : Cx} : CallR X (.builtin "len") (rLenA X.K) := CallR.or call_len_seq call_lenK
theorem ok_len {K : PySem.W.Frag} : CallOk (rLenA K) gLen := fun B H vs ds o Q e hv hg hp => by
  unfold gLen at hg
  split at hg
  · cases hg
    obtain ⟨v, rfl, a, xs, rfl, h1, h2⟩ := vws1 hv
    exact .inl ⟨a, xs, rfl, .inl (SqL.of h1), hp _ (by rw [h2.len]; exact .int _)⟩
  · cases hg
    obtain ⟨v, rfl, h⟩ := vws1 hv
    obtain ⟨a, xs, rfl, h1, h2⟩ := vw_tup h
    exact .inl ⟨a, xs, rfl, .inr (SqT.of (e _ _ h1)), hp _ (by rw [h2.len]; exact .int _)⟩
  · cases hg
    obtain ⟨v, rfl, a, xs, rfl, h1, h2⟩ := vws1 hv
    exact .inr ⟨a, xs, rfl, .inl h1, hp _ (by rw [Paired.length h2]; exact .int _)⟩
  · cases hg
/-- abs, max, min of ints, int -/
def gAbs : List D → Option ORes
  | [.int i] => some (.vl (.int (if i < 0 then -i else i)))
  | _ => none
theorem ok_abs : CallOk (fun xs H Q => ∃ i, xs = [.int i] ∧ Q (.int (if i < 0 then -i else i)) H) gAbs := fun B H vs ds o Q e hv hg hp => by
  unfold gAbs at hg
  split at hg
  · cases hg
    obtain ⟨v, rfl, h⟩ := vws1 hv
    rw [vw_int h]
    exact ⟨_, rfl, hp _ (.int _)⟩
  · cases hg
def gMax2 : List D → Option ORes
  | [.int i, .int j] => some (.vl (.int (if j > i then j else i)))
  | _ => none
def gMin2 : List D → Option ORes
  | [.int i, .int j] => some (.vl (.int (if j < i then j else i)))
  | _ => none
theorem ok_max2 : CallOk (fun xs H Q => ∃ i j, xs = [.int i, .int j] ∧ Q (.int (if j > i then j else i)) H) gMax2 := fun B H vs ds o Q e hv hg hp => by
  unfold gMax2 at hg
  split at hg
  · cases hg
    obtain ⟨v, w, rfl, h, h'⟩ := vws2 hv
    rw [vw_int h, vw_int h']
    exact ⟨_, _, rfl, hp _ (.int _)⟩
  · cases hg
theorem ok_min2 : CallOk (fun xs H Q => ∃ i j, xs = [.int i, .int j] ∧ Q (.int (if j < i then j else i)) H) gMin2 := fun B H vs ds o Q e hv hg hp => by
  unfold gMin2 at hg
  split at hg
  · cases hg
    obtain ⟨v, w, rfl, h, h'⟩ := vws2 hv
    rw [vw_int h, vw_int h']
    exact ⟨_, _, rfl, hp _ (.int _)⟩
  · cases hg
def gInt : List D → Option ORes
  | [.int i] => some (.vl (.int i))
  | [.bool k] => some (.vl (.int (if k then 1 else 0)))
  | _ => none
theorem ok_int : CallOk (fun xs H Q => (∃ i, xs = [.int i] ∧ Q (.int i) H) ∨ ∃ k, xs = [.bl k] ∧ Q (.int (if k then 1 else 0)) H) gInt := fun B H vs ds o Q e hv hg hp => by
  unfold gInt at hg
  split at hg
  · cases hg
    obtain ⟨v, rfl, h⟩ := vws1 hv
    rw [vw_int h]
    exact .inl ⟨_, rfl, hp _ (.int _)⟩
  · cases hg
    obtain ⟨v, rfl, h⟩ := vws1 hv
    rw [vw_bool h]
    exact .inr ⟨_, rfl, hp _ (.int _)⟩
  · cases hg
/-- lists of ints, of bools -/
def intsD : List D → Option (List Int)
  | [] => some []
  | .int i :: r => (intsD r).bind fun is => some (i :: is)
  | _ :: _ => none
theorem intsD_inv : ∀ {ds : List D} {is : List Int}, intsD ds = some is → ds = is.map PyData.int
  | [], is, h => by cases h; rfl
  | d :: r, is, h => by
    unfold intsD at h
    split at h
    · rename_i h0; cases h0
    · rename_i i r' h0
      cases h0
      obtain ⟨js, h1, h⟩ := bind_some' h
      cases h
      rw [intsD_inv h1]
      rfl
    · cases h
theorem intsD_map : ∀ is : List Int, intsD (is.map PyData.int) = some is
  | [] => rfl
  | i :: is => by
    show (intsD (is.map PyData.int)).bind _ = _
    rw [intsD_map is]
    rfl
def blsD : List D → Option (List Bool)
  | [] => some []
  | .bool i :: r => (blsD r).bind fun is => some (i :: is)
  | _ :: _ => none
theorem blsD_inv : ∀ {ds : List D} {is : List Bool}, blsD ds = some is → ds = is.map PyData.bool
  | [], is, h => by cases h; rfl
  | d :: r, is, h => by
    unfold blsD at h
    split at h
    · rename_i h0; cases h0
    · rename_i i r' h0
      cases h0
      obtain ⟨js, h1, h⟩ := bind_some' h
      cases h
      rw [blsD_inv h1]
      rfl
    · cases h
theorem blsD_map : ∀ is : List Bool, blsD (is.map PyData.bool) = some is
  | [] => rfl
  | i :: is => by
    show (blsD (is.map PyData.bool)).bind _ = _
    rw [blsD_map is]
    rfl
def gSum : List D → Option ORes
  | [.list ds] => (intsD ds).bind fun is => some (.vl (.int is.sum))
  | _ => none
theorem ok_sum {K : PySem.W.Frag} : CallOk (rSum K) gSum := fun B H vs ds o Q e hv hg hp => by
  unfold gSum at hg
  split at hg
  · obtain ⟨is, h1, hg⟩ := bind_some' hg
    cases hg
    obtain ⟨v, rfl, a, xs, rfl, h2, h3⟩ := vws1 hv
    rw [intsD_inv h1] at h3
    rw [h3.ints] at h2
    exact ⟨a, is, rfl, SqL.of h2, hp _ (.int _)⟩
  · cases hg
def gAll : List D → Option ORes
  | [.list ds] => (blsD ds).bind fun is => some (.vl (.bool (is.all id)))
  | _ => none
def gAny : List D → Option ORes
  | [.list ds] => (blsD ds).bind fun is => some (.vl (.bool (is.any id)))
  | _ => none
theorem ok_all {K : PySem.W.Frag} : CallOk (rAll K) gAll := fun B H vs ds o Q e hv hg hp => by
  unfold gAll at hg
  split at hg
  · obtain ⟨is, h1, hg⟩ := bind_some' hg
    cases hg
    obtain ⟨v, rfl, a, xs, rfl, h2, h3⟩ := vws1 hv
    rw [blsD_inv h1] at h3
    rw [h3.bls] at h2
    exact ⟨a, is, rfl, SqL.of h2, hp _ (.bl _)⟩
  · cases hg
theorem ok_any {K : PySem.W.Frag} : CallOk (rAny K) gAny := fun B H vs ds o Q e hv hg hp => by
  unfold gAny at hg
  split at hg
  · obtain ⟨is, h1, hg⟩ := bind_some' hg
    cases hg
    obtain ⟨v, rfl, a, xs, rfl, h2, h3⟩ := vws1 hv
    rw [blsD_inv h1] at h3
    rw [h3.bls] at h2
    exact ⟨a, is, rfl, SqL.of h2, hp _ (.bl _)⟩
  · cases hg
/-- the greatest, the least of a list of ints -/
def maxI : List Int → Int
  | [] => 0
  | [x] => x
  | x :: y :: r => let m := maxI (y :: r); if x < m then m else x
def minI : List Int → Int
  | [] => 0
  | [x] => x
  | x :: y :: r => let m := minI (y :: r); if m < x then m else x
theorem maxI_spec : ∀ {l : List Int}, l ≠ [] → maxI l ∈ l ∧ ∀ y ∈ l, y ≤ maxI l
  | [], h => absurd rfl h
  | [x], _ => ⟨by simp [maxI], fun y hy => by simp at hy; rw [hy]; exact Int.le_refl _⟩
  | x :: y :: r, _ => by
    obtain ⟨h1, h2⟩ := maxI_spec (l := y :: r) (by simp)
    unfold maxI
    dsimp only
    split
    · rename_i h
      refine ⟨List.mem_cons_of_mem _ h1, fun z hz => ?_⟩
      rcases List.mem_cons.mp hz with rfl | hz
      · omega
      · exact h2 z hz
    · rename_i h
      refine ⟨List.mem_cons_self, fun z hz => ?_⟩
      rcases List.mem_cons.mp hz with rfl | hz
      · exact Int.le_refl _
      · have := h2 z hz
        omega
theorem minI_spec : ∀ {l : List Int}, l ≠ [] → minI l ∈ l ∧ ∀ y ∈ l, minI l ≤ y
  | [], h => absurd rfl h
  | [x], _ => ⟨by simp [minI], fun y hy => by simp at hy; rw [hy]; exact Int.le_refl _⟩
  | x :: y :: r, _ => by
    obtain ⟨h1, h2⟩ := minI_spec (l := y :: r) (by simp)
    unfold minI
    dsimp only
    split
    · rename_i h
      refine ⟨List.mem_cons_of_mem _ h1, fun z hz => ?_⟩
      rcases List.mem_cons.mp hz with rfl | hz
      · omega
      · exact h2 z hz
    · rename_i h
      refine ⟨List.mem_cons_self, fun z hz => ?_⟩
      rcases List.mem_cons.mp hz with rfl | hz
      · exact Int.le_refl _
      · have := h2 z hz
        omega
theorem max_uniq {l : List Int} {m : Int} (h1 : m ∈ l) (h2 : ∀ y ∈ l, y ≤ m) : m = maxI l := by
  have hne : l ≠ [] := fun z => by rw [z] at h1; cases h1
  obtain ⟨a, b⟩ := maxI_spec hne
  have := b m h1
  have := h2 _ a
  omega
theorem min_uniq {l : List Int} {m : Int} (h1 : m ∈ l) (h2 : ∀ y ∈ l, m ≤ y) : m = minI l := by
  have hne : l ≠ [] := fun z => by rw [z] at h1; cases h1
  obtain ⟨a, b⟩ := minI_spec hne
  have := b m h1
  have := h2 _ a
  omega
def gMax : List D → Option ORes
  | [.list ds] => (intsD ds).bind fun is => if is.isEmpty then none else some (.vl (.int (maxI is)))
  | _ => none
def gMin : List D → Option ORes
  | [.list ds] => (intsD ds).bind fun is => if is.isEmpty then none else some (.vl (.int (minI is)))
  | _ => none
theorem ok_max {K : PySem.W.Frag} : CallOk (rMax K) gMax := fun B H vs ds o Q e hv hg hp => by
  unfold gMax at hg
  split at hg
  · obtain ⟨is, h1, hg⟩ := bind_some' hg
    split at hg
    · cases hg
    · rename_i hne
      cases hg
      obtain ⟨v, rfl, a, xs, rfl, h2, h3⟩ := vws1 hv
      rw [intsD_inv h1] at h3
      rw [h3.ints] at h2
      refine ⟨a, is, rfl, SqL.of h2, ?_, fun m q1 q2 => ?_⟩
      · cases is with
        | nil => exact absurd rfl hne
        | cons _ _ => exact Nat.succ_pos _
      · rw [max_uniq q1 q2]
        exact hp _ (.int _)
  · cases hg
theorem ok_min {K : PySem.W.Frag} : CallOk (rMin K) gMin := fun B H vs ds o Q e hv hg hp => by
  unfold gMin at hg
  split at hg
  · obtain ⟨is, h1, hg⟩ := bind_some' hg
    split at hg
    · cases hg
    · rename_i hne
      cases hg
      obtain ⟨v, rfl, a, xs, rfl, h2, h3⟩ := vws1 hv
      rw [intsD_inv h1] at h3
      rw [h3.ints] at h2
      refine ⟨a, is, rfl, SqL.of h2, ?_, fun m q1 q2 => ?_⟩
      · cases is with
        | nil => exact absurd rfl hne
        | cons _ _ => exact Nat.succ_pos _
      · rw [min_uniq q1 q2]
        exact hp _ (.int _)
  · cases hg
/-- list(xs), tuple(xs) -/
def gList : List D → Option ORes
  | [.list ds] => some (.ls ds)
  | [.tuple ds] => some (.ls ds)
  | _ => none
theorem ok_list {K : PySem.W.Frag} : CallOk (fun xs H Q => ∃ p ys, xs = [.ref p] ∧ (SqL K H p ys ∨ SqT K H p ys) ∧ ∀ l, H l = none → Q (.ref l) (upd H l (.lst ys))) gList := fun B H vs ds o Q e hv hg hp => by
  unfold gList at hg
  split at hg
  · cases hg
    obtain ⟨v, rfl, a, xs, rfl, h2, h3⟩ := vws1 hv
    exact ⟨a, xs, rfl, .inl (SqL.of h2), fun l hl => hp l xs hl h3⟩
  · cases hg
    obtain ⟨v, rfl, h⟩ := vws1 hv
    obtain ⟨a, xs, rfl, h1, h2⟩ := vw_tup h
    exact ⟨a, xs, rfl, .inr (SqT.of (e _ _ h1)), fun l hl => hp l xs hl h2⟩
  · cases hg
def gTuple : List D → Option ORes
  | [.list ds] => some (.tp ds)
  | [.tuple ds] => some (.tp ds)
  | _ => none
theorem ok_tuple {K : PySem.W.Frag} : CallOk (fun xs H Q => ∃ p ys, xs = [.ref p] ∧ ((SqL K H p ys ∧ ∀ l, H l = none → Q (.ref l) (upd H l (.tup ys))) ∨ (SqT K H p ys ∧ Q (.ref p) H))) gTuple := fun B H vs ds o Q e hv hg hp => by
  unfold gTuple at hg
  split at hg
  · cases hg
    obtain ⟨v, rfl, a, xs, rfl, h2, h3⟩ := vws1 hv
    exact ⟨a, xs, rfl, .inl ⟨SqL.of h2, fun l hl => hp.2 l xs hl h3⟩⟩
  · cases hg
    obtain ⟨v, rfl, h⟩ := vws1 hv
    obtain ⟨a, xs, rfl, h1, h2⟩ := vw_tup h
    exact ⟨a, xs, rfl, .inr ⟨SqT.of (e _ _ h1), hp.1 _ (.tup h1 h2)⟩⟩
  · cases hg
/-- list(script) -/
def dListScr (i : Nat) : SE := fun ρ => match ρ[i]? with
  | some (some (.scr ns)) => some (.new (.own false (ns.map PyData.int)), ρ)
  | _ => none
theorem de_listScr {X : Cx} (i : Nat) {x y : Str} {p pos pos' : Pos} (hm : X.mg x = none) (hv : bootBuiltins x = some (.type "list")) (hN : X.N[i]? = some y := by rfl)
    (hvis : Vis X.env.scope y := by first | exact Or.inl rfl | exact Or.inr (Or.inl rfl)) (hd : (y == ("__debug__" : Str)) = false := by decide)
    (hcd : (y == ("__classdict__" : Str)) = false := by decide) (hg : Gl X x := by rfl) (hn : x ≠ "__name__" := by decide) (hdb : (x == ("__debug__" : Str)) = false := by decide) 
    (hs : starEach [Expr.Name y pos'] X.env = (false, eval (Expr.Name y pos') X.env) :: starEach [] X.env := by rfl) (hpl : (backTo pos (starEach [] X.env)).any (·.1) = false := by rfl) :
    DE X (.Call (.Name x p) [.Name y pos'] [] pos) (dListScr i) := ⟨PE.imp (pe_callTy call_list_of hg hm hv (pa_cons (pe_var hN hvis hd hcd) pa_nil hs) hn hdb hs hpl) fun σ H Q h => by
  obtain ⟨m, B, ρ, r0, ρ', E, e, k⟩ := h
  unfold dListScr at e
  split at e
  · rename_i ns hi
    cases e
    obtain ⟨v, h1, ⟨a, rfl, hS⟩, _⟩ := E.have_ i _ hi
    refine ⟨_, h1, a, _, rfl, .inl (sql_up hS E.bH), fun l hl => ?_⟩
    exact k (.ref l) _ B (Grow.refl m B) (E.laid hl) ⟨rfl, rfl, ⟨l, _, rfl, none_of_same E.bH hl, none_of_same E.fH hl, upd_same, Rps.ofInts ns⟩, own_ne_new E hl⟩
  · cases e⟩

/-! ### displays -/
def dTup (a : SA) : SE := fun ρ => (a ρ).bind fun p => (vals p.1).bind fun ds => if ds.length ≤ 1000 then some (.val (.tuple ds), p.2) else none
def dLst (a : SA) : SE := fun ρ => (a ρ).bind fun p => (vals p.1).bind fun ds => if ds.length ≤ 1000 then some (.new (.own false ds), p.2) else none
section
variable {X : Cx} {es : List Expr} {a : SA} {pos : Pos}
theorem de_tup {x1} (h : DA X es a) : DE X (.Tuple es x1 pos) (dTup a) := ⟨PE.imp (pe_tup h.pa) fun σ H Q h => by
  obtain ⟨m, B, ρ, r0, ρ', E, e, k⟩ := h
  obtain ⟨p, h1, e⟩ := bind_some' e
  obtain ⟨ds, h2, e⟩ := bind_some' e
  split at e
  · rename_i hl
    cases e
    refine ⟨m, B, ρ, p.1, p.2, E, h1, fun vs H1 B1 g1 E1 R1 => ?_⟩
    have hr := vals_ok R1 h2
    refine ⟨line_of (by rw [hr.len]; omega), fun q hq => ?_⟩
    obtain ⟨g2, E2⟩ := E1.laidIn (o := .tup vs) hq
    exact k _ _ _ (g1.trans g2) E2 (Rp.tup upd_same (hr.up g2.1))
  · cases e⟩
theorem de_lst (h : DA X es a) : DE X (.List es pos) (dLst a) := ⟨PE.imp (pe_lst h.pa) fun σ H Q h => by
  obtain ⟨m, B, ρ, r0, ρ', E, e, k⟩ := h
  obtain ⟨p, h1, e⟩ := bind_some' e
  obtain ⟨ds, h2, e⟩ := bind_some' e
  split at e
  · rename_i hl
    cases e
    refine ⟨m, B, ρ, p.1, p.2, E, h1, fun vs H1 B1 g1 E1 R1 => ?_⟩
    have hr := vals_ok R1 h2
    refine ⟨line_of (by rw [hr.len]; omega), fun q hq => ?_⟩
    exact k _ _ _ g1 (E1.laid hq) ⟨rfl, rfl, ⟨q, vs, rfl, none_of_same E1.bH hq, none_of_same E1.fH hq, upd_same, hr⟩, own_ne_new E1 hq⟩
  · cases e⟩
end

/-! ### subscripts, slices -/
theorem atI_rps {B : Hp} {vs : List V} {ds : List D} {i : Int} {d : D} (h : Rps B vs ds) (e : atI ds i = some d) : ∃ v, atI vs i = some v ∧ Rp B v d := by
  unfold atI at e ⊢
  rw [h.len]
  obtain ⟨j, h1, h2⟩ := bind_some' e
  obtain ⟨v, h3, h4⟩ := h.at h2
  exact ⟨v, by rw [h1]; exact h3, h4⟩
def gIx : D → D → Option ORes
  | .list ds, .int i => (atI ds i).bind fun d => some (.vl d)
  | .tuple ds, .int i => (atI ds i).bind fun d => some (.vl d)
  | _, _ => none
def rIxA (K : PySem.W.Frag) : R2 := fun x y H Q => rIxL K x y H Q ∨ rIxT K x y H Q
theorem ix_all {X : Cx} : IxR X (rIxA X.K) := IxR.or ix_list ix_tup
theorem ok_ix {K : PySem.W.Frag} : OpOk (rIxA K) gIx := fun B H x y dx dy o Q e a b c d => by
  unfold gIx at c
  split at c
  · obtain ⟨z, h1, c⟩ := bind_some' c
    cases c
    obtain ⟨p, xs, rfl, h2, h3⟩ := a
    obtain ⟨v, h4, h5⟩ := atI_rps h3 h1
    exact .inl ⟨p, xs, _, v, rfl, vw_int b, SqL.of h2, h4, d v h5⟩
  · obtain ⟨z, h1, c⟩ := bind_some' c
    cases c
    obtain ⟨p, xs, rfl, h2, h3⟩ := vw_tup a
    obtain ⟨v, h4, h5⟩ := atI_rps h3 h1
    exact .inr ⟨p, xs, _, v, rfl, vw_int b, SqT.of (e _ _ h2), h4, d v h5⟩
  · cases c
theorem de_ix {X : Cx} {a b : Expr} {f1 f2 : SE} {pos : Pos} (ha : DE X a f1) (hb : DE X b f2) (hs : PlainIx b := by exact fun _ _ => rfl) : DE X (.Subscript a b pos) (dOp gIx f1 f2) := ⟨PE.imp (pe_ix ix_all ha.pe hb.pe hs) (tOp_of ok_ix)⟩
/-- parts of a slice -/
abbrev SO := Env → Option (Option Int × Env)
def tO (K : PySem.W.Frag) (f : SO) : TO := fun σ H Q => ∃ (m : Fm) (B : Hp) (ρ : Env) (o : Option Int) (ρ' : Env), ERep K m B H σ ρ ∧ f ρ = some (o, ρ') ∧
  ∀ H' B', Grow m B B' → ERep K m B' H' σ ρ' → Q o H'
structure DO (X : Cx) (e : Option Expr) (f : SO) : Prop where
  po : PO X e (tO X.K f)
theorem PO.imp {X : Cx} {e : Option Expr} {t t' : TO} (h : PO X e t) (w : ∀ σ H Q, t' σ H Q → t σ H Q) : PO X e t' := ⟨fun pins s σ H Q I q => h.run pins s σ H Q I (w σ H Q q)⟩
def oNone : SO := fun ρ => some (none, ρ)
def oSome (f : SE) : SO := fun ρ => (f ρ).bind fun p => match p.1 with
  | .val (.int i) => some (some i, p.2)
  | _ => none
theorem do_none {X : Cx} : DO X none oNone := ⟨PO.imp po_none fun σ H Q h => by
  obtain ⟨m, B, ρ, o, ρ', E, e, k⟩ := h
  cases e
  exact k H B (Grow.refl m B) E⟩
theorem do_some {X : Cx} {e : Expr} {f : SE} (h : DE X e f) : DO X (some e) (oSome f) := ⟨PO.imp (po_some h.pe) fun σ H Q h => by
  obtain ⟨m, B, ρ, o, ρ', E, e, k⟩ := h
  obtain ⟨p, h1, e⟩ := bind_some' e
  split at e
  · rename_i i hi
    cases e
    refine ⟨m, B, ρ, p.1, p.2, E, h1, fun v H1 B1 g1 E1 R1 => ?_⟩
    rw [hi] at R1
    have R1 : Rp B1 v (.int i) := R1
    cases R1
    exact ⟨i, rfl, k H1 B1 g1 E1⟩
  · cases e⟩
def cutD (xs : List D) (lo hi : Option Int) : List D := (xs.drop (HT.sIx xs.length 0 lo)).take (HT.sIx xs.length xs.length hi - HT.sIx xs.length 0 lo)
theorem cut_rps {B : Hp} {vs : List V} {ds : List D} (h : Rps B vs ds) (lo hi : Option Int) : Rps B (cutV vs lo hi) (cutD ds lo hi) := by
  unfold cutV cutD
  rw [h.len]
  exact (h.dropN _).takeN _
def gSl (lo hi : Option Int) : D → Option ORes
  | .list ds => some (.ls (cutD ds lo hi))
  | .tuple ds => some (.tp (cutD ds lo hi))
  | _ => none
def dSl (f : SE) (lo hi : SO) : SE := fun ρ => (f ρ).bind fun p => (stab p.1).bind fun r => (lo p.2).bind fun a => (hi a.2).bind fun b => (dat b.2 r).bind fun d => (gSl a.1 b.1 d).bind fun o => some (o.r, b.2)
def rSlAll (K : PySem.W.Frag) : V → Option Int → Option Int → Hp → VK → Prop := fun x lo hi H Q => rSlL K x lo hi H Q ∨ rSlA K x lo hi H Q
theorem ok_sl {K : PySem.W.Frag} {B H : Hp} {x : V} {d : D} {lo hi : Option Int} {o : ORes} {Q : VK} (e : Same B H) (h : Vw B H x d) (hg : gSl lo hi d = some o) (hp : OPost B H o Q) : rSlAll K x lo hi H Q := by
  unfold gSl at hg
  split at hg
  · cases hg
    obtain ⟨p, xs, rfl, h2, h3⟩ := h
    exact .inl ⟨p, xs, rfl, SqL.of h2, fun q hq => hp q _ hq (cut_rps h3 lo hi)⟩
  · rename_i ds
    cases hg
    obtain ⟨p, xs, rfl, h2, h3⟩ := vw_tup h
    refine .inr ⟨p, xs, rfl, SqT.of (e _ _ h2), fun hw => ?_, fun _ q hq => hp.2 q _ hq (cut_rps h3 lo hi)⟩
    have : Rps B xs (cutD ds lo hi) := by
      have := cut_rps h3 lo hi
      unfold cutV at this
      rw [hw.1, hw.2, List.drop_zero, Nat.sub_zero, List.take_length] at this
      exact this
    exact hp.1 _ (.tup h2 this)
  · cases hg
theorem de_sl {X : Cx} {e : Expr} {lo hi : Option Expr} {f : SE} {fl fh : SO} {pos p2 : Pos} (he : DE X e f) (hl : DO X lo fl) (hu : DO X hi fh) : DE X (.Subscript e (.Slice lo hi none p2) pos) (dSl f fl fh) := ⟨PE.imp (pe_slice (SlR.or sl_list sl_tupA) he.pe hl.po hu.po) fun σ H Q h => by
  obtain ⟨m, B, ρ, r0, ρ', E, e, k⟩ := h
  obtain ⟨p, h1, e⟩ := bind_some' e
  obtain ⟨r, h2, e⟩ := bind_some' e
  obtain ⟨a, h3, e⟩ := bind_some' e
  obtain ⟨b, h4, e⟩ := bind_some' e
  obtain ⟨d, h5, e⟩ := bind_some' e
  obtain ⟨o, h6, e⟩ := bind_some' e
  cases e
  refine ⟨m, B, ρ, p.1, p.2, E, h1, fun x H1 B1 g1 E1 R1 => ?_⟩
  obtain ⟨B1', g1', E1', R1', st⟩ := stab_ok E1 R1 h2
  refine ⟨m, B1', p.2, a.1, a.2, E1', h3, fun H2 B2 g2 E2 => ?_⟩
  refine ⟨m, B2, a.2, b.1, b.2, E2, h4, fun H3 B3 g3 E3 => ?_⟩
  have R3 := st.up (H' := H3) (ρ' := b.2) R1' (g2.1.trans g3.1)
  exact ok_sl E3.bH (vw_ok E3 R3 h5) h6 (opost E3 o fun v H' B' g' E' R' => k v H' B' ((((g1.trans g1').trans g2).trans g3).trans g') E' R')⟩

/-! ### methods that change a list of one's own -/
def MutOk (r : V → List V → Hp → VK → Prop) (g : List D → List D → Option (List D × D)) : Prop := ∀ (B H : Hp) (a : Addr) (xs vs : List V) (ds es ds' : List D) (d : D) (Q : VK), Same B H → H a = some (.lst xs) → Rps B xs ds → Rps B vs es → g ds es = some (ds', d) →
  (∀ xs' z, Rps B xs' ds' → Rp B z d → Q z (upd H a (.lst xs'))) → r (.ref a) vs H Q
def dMut (i : Nat) (g : List D → List D → Option (List D × D)) (a : SA) : SE := fun ρ => match ρ[i]? with
  | some (some (.own _ _)) => (a ρ).bind fun p => (vals p.1).bind fun es => match p.2[i]? with
    | some (some (.own b ds)) => (g ds es).bind fun q => some (.val q.2, p.2.set i (some (.own b q.1)))
    | _ => none
  | _ => none
section
variable {K : PySem.W.Frag} {m : Fm} {B B' H H' : Hp} {σ : L2.St} {ρ ρ' : Env} {v : V} {r : R} {s : Sl} {d : D}
theorem mut_core {i : Nat} {b : Bool} {ds es ds' : List D} {d : D} {rr : V → List V → Hp → VK → Prop} {g : List D → List D → Option (List D × D)} {vs : List V} {Q : VK} (ok : MutOk rr g) (E : ERep K m B H σ ρ) (hi : ρ[i]? = some (some (.own b ds))) (hσ : σ[i]? = some (some v))
    (he : Rps B vs es) (hg : g ds es = some (ds', d)) (k : ∀ z H', ERep K m B H' σ (ρ.set i (some (.own b ds'))) → Rp B z d → Q z H') : rr v vs H Q := by
  obtain ⟨w, e1, ⟨a, xs, rfl, h1, h2, h3, h4⟩, e3⟩ := E.have_ i _ hi
  rw [hσ] at e1
  cases e1
  refine ok B H a xs vs ds es ds' d Q E.bH h3 h4 he hg fun xs' z hx hz => k z _ ?_ hz
  exact E.setMut hi rfl hσ rfl rfl ⟨a, xs', rfl, h1, h2, upd_same, hx⟩
end
section
variable {X : Cx} {i : Nat} {x name : Str} {e : Expr} {es : List Expr} {a : SA} {T id : String} {r : V → List V → Hp → VK → Prop} {g : List D → List D → Option (List D × D)} {apos cpos npos : Pos}
theorem tBM_of {K : PySem.W.Frag} (ok : MutOk r g) : ∀ σ H Q, tD K (dMut i g a) σ H Q → tBM K "list" r (tVar i) (tA K a) σ H Q := fun σ H Q h => by
  obtain ⟨m, B, ρ, r0, ρ', E, e, k⟩ := h
  unfold dMut at e
  split at e
  · rename_i b0 ds0 hi0
    obtain ⟨p, h1, e⟩ := bind_some' e
    obtain ⟨es', h2, e⟩ := bind_some' e
    split at e
    · rename_i b ds hi
      obtain ⟨q, h3, e⟩ := bind_some' e
      cases e
      obtain ⟨v, e1, ⟨l, xs, rfl, q1, q2, q3, q4⟩, _⟩ := E.have_ i _ hi0
      refine ⟨_, e1, .inl ⟨rfl, xs, SqL.of q3⟩, m, B, ρ, p.1, p.2, E, h1, fun vs H1 B1 g1 E1 R1 => ?_⟩
      exact mut_core ok E1 hi e1 (vals_ok R1 h2) h3 fun z H' E' hz => k z H' B1 g1 E' hz
    · cases e
  · cases e
/-- the same without arguments -/
theorem tBM0_of {K : PySem.W.Frag} (ok : MutOk r g) : ∀ σ H Q, tD K (dMut i g aNil) σ H Q → tBM0 K "list" r (tVar i) σ H Q := fun σ H Q h => by
  obtain ⟨v, e1, ty, m, B, ρ, rs, ρ', E, e, k⟩ := tBM_of (K := K) ok σ H Q h
  cases e
  exact ⟨v, e1, ty, k [] H B (Grow.refl m B) E rfl⟩
theorem de_mut (pa : PlainAttrs "list") (slot : Slot "list" name id) (hty : typeOf (.builtin id) = pure (.type "method_descriptor")) (hm : MtR X id r) (ok : MutOk r g) (ha : DA X (e :: es) a) (hN : X.N[i]? = some x := by rfl)
    (hv : Vis X.env.scope x := by first | exact Or.inl rfl | exact Or.inr (Or.inl rfl) | exact Or.inr (Or.inr rfl)) (hd : (x == ("__debug__" : Str)) = false := by decide) (hcd : (x == ("__classdict__" : Str)) = false := by decide)
    (hbase : attributeBase (Expr.Name x npos) name X.env (eval (Expr.Name x npos) X.env) = eval (Expr.Name x npos) X.env := by rfl)
    (hfew : ((backTo cpos (starEach (e :: es) X.env)).all (fun x => !x.1) && (backToKw cpos (keywordEach [] X.env)).all (fun x => x.1.isSome)
      && decide ((e :: es).length + ([] : List Keyword).length + (if ([] : List Keyword).isEmpty then 0 else 1) < 30)) = true := by rfl)
    (hline : (apos.endLine == cpos.line) = true := by rfl) (hs : starEach (e :: es) X.env = (false, eval e X.env) :: starEach es X.env := by rfl) (hpl : (backTo cpos (starEach es X.env)).any (·.1) = false := by rfl) :
    DE X (.Call (.Attribute (.Name x npos) name apos) (e :: es) [] cpos) (dMut i g a) :=
  ⟨PE.imp (pe_bm pa slot hty hm (pe_var hN hv hd hcd) ha.pa hbase hfew hline hs hpl) (tBM_of ok)⟩
theorem de_mut0 (pa : PlainAttrs "list") (slot : Slot "list" name id) (hty : typeOf (.builtin id) = pure (.type "method_descriptor")) (hm : MtR X id r) (ok : MutOk r g) (hN : X.N[i]? = some x := by rfl)
    (hv : Vis X.env.scope x := by first | exact Or.inl rfl | exact Or.inr (Or.inl rfl) | exact Or.inr (Or.inr rfl)) (hd : (x == ("__debug__" : Str)) = false := by decide) (hcd : (x == ("__classdict__" : Str)) = false := by decide)
    (hbase : attributeBase (Expr.Name x npos) name X.env (eval (Expr.Name x npos) X.env) = eval (Expr.Name x npos) X.env := by rfl)
    (hline : (apos.endLine == cpos.line) = true := by rfl) :
    DE X (.Call (.Attribute (.Name x npos) name apos) [] [] cpos) (dMut i g aNil) :=
  ⟨PE.imp (pe_bm0 pa slot hty hm (pe_var hN hv hd hcd) hbase hline) (tBM0_of ok)⟩
end
def gApp : List D → List D → Option (List D × D) := fun ds es => match es with
  | [d] => if ds.length < 16777216 then some (ds ++ [d], .none) else none
  | _ => none
theorem line_lt {n : Nat} (h : n < 16777216) : n < sizeLine := by
  rw [sizeLine_eq]
  exact h
theorem ok_app : MutOk rAppend gApp := fun B H a xs vs ds es ds' d Q e h1 h2 h3 hg hp => by
  unfold gApp at hg
  split at hg
  · split at hg
    · rename_i hl
      cases hg
      cases h3 with
      | cons r t =>
        cases t
        exact ⟨a, xs, _, rfl, rfl, h1, line_lt (by rw [h2.len]; exact hl), hp _ _ (h2.app (.cons r .nil)) .non⟩
    · cases hg
  · cases hg
def gPop : List D → List D → Option (List D × D) := fun ds es => match es with
  | [] => (ds[ds.length - 1]?).bind fun d => some (ds.dropLast, d)
  | _ => none
theorem ok_pop : MutOk rPop gPop := fun B H a xs vs ds es ds' d Q e h1 h2 h3 hg hp => by
  unfold gPop at hg
  split at hg
  · obtain ⟨d', h4, hg⟩ := bind_some' hg
    cases hg
    cases h3
    obtain ⟨v, h5, h6⟩ := h2.at h4
    exact ⟨a, xs, v, rfl, rfl, h1, by rw [h2.len]; exact h5, hp _ _ h2.dropL h6⟩
  · cases hg
def gPopAt : List D → List D → Option (List D × D) := fun ds es => match es with
  | [.int i] => if 0 ≤ i ∧ i < 2 ^ 63 then (ds[i.toNat]?).bind fun d => some (ds.eraseIdx i.toNat, d) else none
  | _ => none
theorem seqIx_nat {i : Int} {n : Nat} (h0 : 0 ≤ i) (h1 : i.toNat < n) : seqIndex? i n = some i.toNat := by
  have h : ixN n i = some i.toNat := by
    unfold ixN
    rw [if_pos h0, if_pos (by omega)]
  exact (ixN_seq h).1
theorem ok_popAt : MutOk rPopAt gPopAt := fun B H a xs vs ds es ds' d Q e h1 h2 h3 hg hp => by
  unfold gPopAt at hg
  split at hg
  · rename_i i
    split at hg
    · rename_i hb
      obtain ⟨d', h4, hg⟩ := bind_some' hg
      cases hg
      obtain ⟨v, h5, h6⟩ := h2.at h4
      cases h3 with
      | cons r t =>
        cases t
        cases r
        exact ⟨a, xs, i, i.toNat, v, rfl, rfl, h1, by omega, by omega, seqIx_nat hb.1 (List.getElem?_eq_some_iff.mp h5).1, h5, hp _ _ (h2.eraseAt _) h6⟩
    · cases hg
  · cases hg
def gRev : List D → List D → Option (List D × D) := fun ds es => match es with
  | [] => some (ds.reverse, .none)
  | _ => none
theorem ok_rev : MutOk rReverse gRev := fun B H a xs vs ds es ds' d Q e h1 h2 h3 hg hp => by
  unfold gRev at hg
  split at hg
  · cases hg
    cases h3
    exact ⟨a, xs, rfl, rfl, h1, hp _ _ h2.rev .non⟩
  · cases hg
def gExt : List D → List D → Option (List D × D) := fun ds es => match es with
  | [.list zs] => if ds.length + zs.length ≤ 16777216 then some (ds ++ zs, .none) else none
  | _ => none
theorem ok_ext : MutOk rExtend gExt := fun B H a xs vs ds es ds' d Q e h1 h2 h3 hg hp => by
  unfold gExt at hg
  split at hg
  · split at hg
    · rename_i hl
      cases hg
      cases h3 with
      | cons r t =>
        cases t
        cases r with
        | lst q1 q2 => exact ⟨a, _, xs, _, rfl, rfl, h1, e _ _ q1, line_of (by rw [h2.len, q2.len]; exact hl), hp _ _ (h2.app q2) .non⟩
    · cases hg
  · cases hg
section
variable {X : Cx} {i : Nat} {x : Str} {e : Expr} {a : SA} {apos cpos npos : Pos}
theorem de_append (ha : DA X [e] a) (hN : X.N[i]? = some x := by rfl)
    (hv : Vis X.env.scope x := by first | exact Or.inl rfl | exact Or.inr (Or.inl rfl) | exact Or.inr (Or.inr rfl)) (hd : (x == ("__debug__" : Str)) = false := by decide) (hcd : (x == ("__classdict__" : Str)) = false := by decide)
    (hbase : attributeBase (Expr.Name x npos) "append" X.env (eval (Expr.Name x npos) X.env) = eval (Expr.Name x npos) X.env := by rfl)
    (hfew : ((backTo cpos (starEach [e] X.env)).all (fun x => !x.1) && (backToKw cpos (keywordEach [] X.env)).all (fun x => x.1.isSome)
      && decide (([e] : List Expr).length + ([] : List Keyword).length + (if ([] : List Keyword).isEmpty then 0 else 1) < 30)) = true := by rfl)
    (hline : (apos.endLine == cpos.line) = true := by rfl) (hs : starEach [e] X.env = (false, eval e X.env) :: starEach [] X.env := by rfl) (hpl : (backTo cpos (starEach [] X.env)).any (·.1) = false := by rfl) :
    DE X (.Call (.Attribute (.Name x npos) "append" apos) [e] [] cpos) (dMut i gApp a) := de_mut PySem.F.plainAttrs_list PySem.F.slot_list_append PySem.F.type_list_append mt_append ok_app ha hN hv hd hcd hbase hfew hline hs hpl
theorem de_extend (ha : DA X [e] a) (hN : X.N[i]? = some x := by rfl)
    (hv : Vis X.env.scope x := by first | exact Or.inl rfl | exact Or.inr (Or.inl rfl) | exact Or.inr (Or.inr rfl)) (hd : (x == ("__debug__" : Str)) = false := by decide) (hcd : (x == ("__classdict__" : Str)) = false := by decide)
    (hbase : attributeBase (Expr.Name x npos) "extend" X.env (eval (Expr.Name x npos) X.env) = eval (Expr.Name x npos) X.env := by rfl)
    (hfew : ((backTo cpos (starEach [e] X.env)).all (fun x => !x.1) && (backToKw cpos (keywordEach [] X.env)).all (fun x => x.1.isSome)
      && decide (([e] : List Expr).length + ([] : List Keyword).length + (if ([] : List Keyword).isEmpty then 0 else 1) < 30)) = true := by rfl)
    (hline : (apos.endLine == cpos.line) = true := by rfl) (hs : starEach [e] X.env = (false, eval e X.env) :: starEach [] X.env := by rfl) (hpl : (backTo cpos (starEach [] X.env)).any (·.1) = false := by rfl) :
    DE X (.Call (.Attribute (.Name x npos) "extend" apos) [e] [] cpos) (dMut i gExt a) := de_mut PySem.F.plainAttrs_list PySem.F.slot_list_extend PySem.F.type_list_extend mt_extend ok_ext ha hN hv hd hcd hbase hfew hline hs hpl
theorem de_popAt (ha : DA X [e] a) (hN : X.N[i]? = some x := by rfl)
    (hv : Vis X.env.scope x := by first | exact Or.inl rfl | exact Or.inr (Or.inl rfl) | exact Or.inr (Or.inr rfl)) (hd : (x == ("__debug__" : Str)) = false := by decide) (hcd : (x == ("__classdict__" : Str)) = false := by decide)
    (hbase : attributeBase (Expr.Name x npos) "pop" X.env (eval (Expr.Name x npos) X.env) = eval (Expr.Name x npos) X.env := by rfl)
    (hfew : ((backTo cpos (starEach [e] X.env)).all (fun x => !x.1) && (backToKw cpos (keywordEach [] X.env)).all (fun x => x.1.isSome)
      && decide (([e] : List Expr).length + ([] : List Keyword).length + (if ([] : List Keyword).isEmpty then 0 else 1) < 30)) = true := by rfl)
    (hline : (apos.endLine == cpos.line) = true := by rfl) (hs : starEach [e] X.env = (false, eval e X.env) :: starEach [] X.env := by rfl) (hpl : (backTo cpos (starEach [] X.env)).any (·.1) = false := by rfl) :
    DE X (.Call (.Attribute (.Name x npos) "pop" apos) [e] [] cpos) (dMut i gPopAt a) := de_mut PySem.F.plainAttrs_list PySem.F.slot_list_pop PySem.F.type_list_pop mt_popAt ok_popAt ha hN hv hd hcd hbase hfew hline hs hpl
theorem de_pop (hN : X.N[i]? = some x := by rfl)
    (hv : Vis X.env.scope x := by first | exact Or.inl rfl | exact Or.inr (Or.inl rfl) | exact Or.inr (Or.inr rfl)) (hd : (x == ("__debug__" : Str)) = false := by decide) (hcd : (x == ("__classdict__" : Str)) = false := by decide)
    (hbase : attributeBase (Expr.Name x npos) "pop" X.env (eval (Expr.Name x npos) X.env) = eval (Expr.Name x npos) X.env := by rfl)
    (hline : (apos.endLine == cpos.line) = true := by rfl) :
    DE X (.Call (.Attribute (.Name x npos) "pop" apos) [] [] cpos) (dMut i gPop aNil) := de_mut0 PySem.F.plainAttrs_list PySem.F.slot_list_pop PySem.F.type_list_pop mt_pop ok_pop hN hv hd hcd hbase hline
theorem de_reverse (hN : X.N[i]? = some x := by rfl)
    (hv : Vis X.env.scope x := by first | exact Or.inl rfl | exact Or.inr (Or.inl rfl) | exact Or.inr (Or.inr rfl)) (hd : (x == ("__debug__" : Str)) = false := by decide) (hcd : (x == ("__classdict__" : Str)) = false := by decide)
    (hbase : attributeBase (Expr.Name x npos) "reverse" X.env (eval (Expr.Name x npos) X.env) = eval (Expr.Name x npos) X.env := by rfl)
    (hline : (apos.endLine == cpos.line) = true := by rfl) :
    DE X (.Call (.Attribute (.Name x npos) "reverse" apos) [] [] cpos) (dMut i gRev aNil) := de_mut0 PySem.F.plainAttrs_list PySem.F.slot_list_reverse PySem.F.type_list_reverse mt_reverse ok_rev hN hv hd hcd hbase hline
end
end DL

namespace DL
open PySem PySem.Spec PyProof.Rows L2

/-! ### stores -/
def storeR (i : Nat) (r : R) (ρ : Env) : Option Env :=
  match r with
  | .val d => some (ρ.set i (some (.val d)))
  | .new s => some (ρ.set i (some s))
  | .at j => (settle (.at j) ρ).bind fun w => some (w.2.set i (some (.val w.1)))
section
variable {K : PySem.W.Frag} {m : Fm} {B B' H H' : Hp} {σ : L2.St} {ρ ρ' : Env} {v : V} {r : R} {s : Sl} {d : D}
theorem store_ok' {i : Nat} (E : ERep K m B H σ ρ) (h : RRep K m B H σ ρ r v) (e : storeR i r ρ = some ρ') : ∃ B', Grow m B B' ∧ ERep K m B' H (σ.set i (some v)) ρ' := by
  cases r with
  | val d =>
    cases e
    exact ⟨B, Grow.refl m B, E.setVal h⟩
  | new s =>
    cases e
    obtain ⟨h1, h2, h3, h4⟩ := h
    exact ⟨B, Grow.refl m B, E.setNew h1 h2 h3 h4⟩
  | «at» j =>
    obtain ⟨w, h1, e⟩ := bind_some' e
    cases e
    obtain ⟨B', g, E', hr⟩ := settle_ok (d := w.1) (ρ' := w.2) E h h1
    exact ⟨B', g, E'.setVal hr⟩
end
/-- a target of data: the slots that it may set, what it does -/
abbrev SG := D → Env → Option Env
def tG (K : PySem.W.Frag) (tv : List Nat) (g : SG) : TG := fun v σ H Q => ∃ (m : Fm) (B : Hp) (ρ : Env) (d : D) (ρ' : Env), ERep K m B H σ ρ ∧ Rp B v d ∧ g d ρ = some ρ' ∧
  ∀ σ', ERep K m B H σ' ρ' → (∀ us : List Nat, (∀ i ∈ tv, i ∈ us) → wipe σ' us = wipe σ us) → Q σ' H
def tGs (K : PySem.W.Frag) (tv : List Nat) (g : List D → Env → Option Env) : TGs := fun vs σ H Q => ∃ (m : Fm) (B : Hp) (ρ : Env) (ds : List D) (ρ' : Env), ERep K m B H σ ρ ∧ Rps B vs ds ∧ g ds ρ = some ρ' ∧
  ∀ σ', ERep K m B H σ' ρ' → (∀ us : List Nat, (∀ i ∈ tv, i ∈ us) → wipe σ' us = wipe σ us) → Q σ' H
structure DG (X : Cx) (tg : Expr) (tv : List Nat) (g : SG) : Prop where
  pg : PG X tg (tG X.K tv g)
structure DGs (X : Cx) (tg : List Expr) (tv : List Nat) (g : List D → Env → Option Env) : Prop where
  pgs : PGs X tg (tGs X.K tv g)
theorem PG.imp {X : Cx} {e : Expr} {t t' : TG} (h : PG X e t) (w : ∀ v σ H Q, t' v σ H Q → t v σ H Q) : PG X e t' := ⟨fun pins s σ H v u Q I r q => h.run pins s σ H v u Q I r (w v σ H Q q)⟩
theorem PGs.imp {X : Cx} {e : List Expr} {t t' : TGs} (h : PGs X e t) (w : ∀ v σ H Q, t' v σ H Q → t v σ H Q) : PGs X e t' := ⟨fun pins s σ H v u Q I r q => h.run pins s σ H v u Q I r (w v σ H Q q)⟩
theorem wipe_comm (σ : L2.St) {i : Nat} {x : Option V} : ∀ {us : List Nat}, i ∈ us → wipe (σ.set i x) us = wipe σ us
  | u :: us, h => by
    unfold wipe
    by_cases e : u = i
    · subst e
      by_cases hm : u ∈ us
      · rw [wipe_comm σ hm]
      · have : wipe (σ.set u x) us = (wipe σ us).set u x := by
          have gen : ∀ (ws : List Nat), u ∉ ws → wipe (σ.set u x) ws = (wipe σ ws).set u x := by
            intro ws
            induction ws with
            | nil => intro _; rfl
            | cons w ws ih =>
              intro hn
              unfold wipe
              rw [ih (fun q => hn (List.mem_cons_of_mem _ q)), List.set_comm _ _ (fun q => hn (by rw [q]; exact List.mem_cons_self))]
          exact gen us hm
        rw [this, List.set_set]
    · have hm : i ∈ us := by
        rcases List.mem_cons.mp h with q | q
        · exact absurd q.symm e
        · exact q
      rw [wipe_comm σ hm]
def gN (i : Nat) : SG := fun d ρ => some (ρ.set i (some (.val d)))
def gsNil : List D → Env → Option Env := fun ds ρ => match ds with
  | [] => some ρ
  | _ => none
def gsCons (g : SG) (gs : List D → Env → Option Env) : List D → Env → Option Env := fun ds ρ => match ds with
  | d :: ds => (g d ρ).bind fun ρ1 => gs ds ρ1
  | [] => none
def gT (n : Nat) (gs : List D → Env → Option Env) : SG := fun d ρ => match d with
  | .tuple ds => if ds.length = n then gs ds ρ else none
  | _ => none
section
variable {X : Cx} {pos : Pos}
theorem dg_name (i : Nat) {x : Str} (hN : X.N.Nodup) (hi : X.N[i]? = some x := by rfl) (hx : Loc X.env.scope x := by first | exact Or.inl rfl | exact Or.inr rfl)
    (hf : X.fn x = true ∨ X.env.scope.names.lookup x = some .local := by first | exact .inl rfl | exact .inr rfl) : DG X (.Name x pos) [i] (gN i) := ⟨PG.imp (pg_name hN hi hx hf) fun v σ H Q h => by
  obtain ⟨m, B, ρ, d, ρ', E, hr, e, k⟩ := h
  cases e
  exact k _ (E.setVal hr) fun us hu => wipe_comm σ (hu i List.mem_cons_self)⟩
theorem dgs_nil : DGs X [] [] gsNil := ⟨PGs.imp pgs_nil fun v σ H Q h => by
  obtain ⟨m, B, ρ, ds, ρ', E, hr, e, k⟩ := h
  unfold gsNil at e
  split at e
  · cases e
    cases hr
    exact ⟨rfl, k σ E fun _ _ => rfl⟩
  · cases e⟩
theorem dgs_cons {e : Expr} {es : List Expr} {tv us : List Nat} {g : SG} {gs : List D → Env → Option Env} (h1 : DG X e tv g) (h2 : DGs X es us gs)
    (hs : (assignEach (e :: es) X.env).map (·.2) = assign e X.env :: (assignEach es X.env).map (·.2) := by rfl) : DGs X (e :: es) (tv ++ us) (gsCons g gs) := ⟨PGs.imp (pgs_cons h1.pg h2.pgs hs) fun v σ H Q h => by
  obtain ⟨m, B, ρ, ds, ρ', E, hr, e, k⟩ := h
  unfold gsCons at e
  split at e
  · obtain ⟨ρ1, e1, e⟩ := bind_some' e
    cases hr with
    | cons r t =>
      refine ⟨_, _, rfl, m, B, ρ, _, ρ1, E, r, e1, fun σ1 E1 w1 => ?_⟩
      refine ⟨m, B, ρ1, _, ρ', E1, t, e, fun σ2 E2 w2 => k σ2 E2 fun ws hw => ?_⟩
      rw [w2 ws fun i hi => hw i (List.mem_append_right _ hi), w1 ws fun i hi => hw i (List.mem_append_left _ hi)]
  · cases e⟩
theorem dg_tup {es : List Expr} {k : Nat} {tv : List Nat} {gs : List D → Env → Option Env} {n : Nat} (hc : X.calm = true) (h : DGs X es tv gs)
    (hn : (assignEach es X.env).length = n := by rfl) (hst : (assignEach es X.env).findIdx? (·.1) = none := by rfl) : DG X (.Tuple es k pos) tv (gT n gs) := ⟨PG.imp (pg_tup hc h.pgs hn hst) fun v σ H Q h => by
  obtain ⟨m, B, ρ, d, ρ', E, hr, e, k⟩ := h
  unfold gT at e
  split at e
  · split at e
    · rename_i hl
      cases hr with
      | tup h1 h2 => exact ⟨_, _, rfl, SqT.of (E.bH _ _ h1), by rw [h2.len]; exact hl, m, B, ρ, _, ρ', E, h2, e, k⟩
    · cases e
  · cases e⟩
end

/-! ### statements -/
def dSkip : SS := fun ρ => some (.nx, ρ)
def dSeq (f g : SS) : SS := fun ρ => (f ρ).bind fun p => match p.1 with
  | .nx => g p.2
  | fl => some (fl, p.2)
def dAsg (i : Nat) (f : SE) : SS := fun ρ => (f ρ).bind fun p => (storeR i p.1 p.2).bind fun ρ' => some (.nx, ρ')
def dAsgG (g : SG) (f : SE) : SS := fun ρ => (f ρ).bind fun p => (settle p.1 p.2).bind fun w => (g w.1 w.2).bind fun ρ' => some (.nx, ρ')
def dExpr (f : SE) : SS := fun ρ => (f ρ).bind fun p => some (.nx, p.2)
def dRet (f : SE) : SS := fun ρ => (f ρ).bind fun p => some (.rt p.1, p.2)
def dRetN : SS := fun ρ => some (.rt (.val .none), ρ)
def dBrk : SS := fun ρ => some (.bk, ρ)
def dCnt : SS := fun ρ => some (.ct, ρ)
def dIfS (h : ST) (f g : SS) : SS := fun ρ => (h ρ).bind fun p => if p.1 then f p.2 else g p.2
def dNever : SS := fun _ => none
def dAug (i : Nat) (op : Int → Int → Int) (f : SE) : SS := fun ρ => match ρ[i]? with
  | some (some (.val (.int a))) => (f ρ).bind fun p => match p.1 with
    | .val (.int b) => some (.nx, p.2.set i (some (.val (.int (op a b)))))
    | _ => none
  | _ => none
section
variable {X : Cx} {st : Stmt} {sts rest : List Stmt} {f g : SS} {fe : SE} {h : ST} {pos : Pos} {e c : Expr}
theorem dss_nil : DSs X [] dSkip := ⟨PSs.imp pss_nil fun D σ H q => by
  obtain ⟨m, B, ρ, fl, ρ', E, e, k⟩ := q
  cases e
  exact k σ H B (Grow.refl m B) E⟩
theorem dss_cons (h1 : DS X st f) (h2 : DSs X rest g) : DSs X (st :: rest) (dSeq f g) := ⟨PSs.imp (pss_cons h1.ps h2.ps) fun D σ H q => by
  obtain ⟨m, B, ρ, fl, ρ', E, e, k⟩ := q
  obtain ⟨p, e1, e⟩ := bind_some' e
  cases hp : p.1 with
  | nx =>
    rw [hp] at e
    refine ⟨m, B, ρ, .nx, p.2, E, by rw [e1, ← hp], fun σ1 H1 B1 g1 E1 => ?_⟩
    exact ⟨m, B1, p.2, fl, ρ', E1, e, fun σ2 H2 B2 g2 E2 => k σ2 H2 B2 (g1.trans g2) E2⟩
  | bk =>
    rw [hp] at e
    cases e
    exact ⟨m, B, ρ, .bk, p.2, E, by rw [e1, ← hp], k⟩
  | ct =>
    rw [hp] at e
    cases e
    exact ⟨m, B, ρ, .ct, p.2, E, by rw [e1, ← hp], k⟩
  | rt r =>
    rw [hp] at e
    cases e
    exact ⟨m, B, ρ, .rt r, p.2, E, by rw [e1, ← hp], k⟩⟩
theorem dss_one (h1 : DS X st f) : DSs X [st] f := ⟨PSs.imp (pss_one h1.ps) fun D σ H q => q⟩
theorem ds_pass : DS X (.Pass pos) dSkip := ⟨PS.imp ps_pass fun D σ H q => by
  obtain ⟨m, B, ρ, fl, ρ', E, e, k⟩ := q
  cases e
  exact k σ H B (Grow.refl m B) E⟩
theorem ds_break : DS X (.Break pos) dBrk := ⟨PS.imp ps_break fun D σ H q => by
  obtain ⟨m, B, ρ, fl, ρ', E, e, k⟩ := q
  cases e
  exact k σ H B (Grow.refl m B) E⟩
theorem ds_continue : DS X (.Continue pos) dCnt := ⟨PS.imp ps_continue fun D σ H q => by
  obtain ⟨m, B, ρ, fl, ρ', E, e, k⟩ := q
  cases e
  exact k σ H B (Grow.refl m B) E⟩
theorem ds_never : DS X st dNever := ⟨PS.imp ps_never fun D σ H q => by
  obtain ⟨m, B, ρ, fl, ρ', E, e, k⟩ := q
  cases e⟩
theorem dss_never : DSs X sts dNever := ⟨PSs.imp pss_never fun D σ H q => by
  obtain ⟨m, B, ρ, fl, ρ', E, e, k⟩ := q
  cases e⟩
theorem ds_asg {i : Nat} {x : Str} {pos' : Pos} (hN : X.N.Nodup) (he : DE X e fe) (hi : X.N[i]? = some x := by rfl) (hx : Loc X.env.scope x := by first | exact Or.inl rfl | exact Or.inr rfl) (hs : swapsWith e (some (.Name x pos')) pos.line X.env = pure false := by rfl)
    (hf : X.fn x = true ∨ X.env.scope.names.lookup x = some .local := by first | exact .inl rfl | exact .inr rfl) : DS X (.Assign [.Name x pos'] e pos) (dAsg i fe) := ⟨PS.imp (ps_set hN hi hx he.pe hs hf) fun D σ H q => by
  obtain ⟨m, B, ρ, fl, ρ', E, e, k⟩ := q
  obtain ⟨p, e1, e⟩ := bind_some' e
  obtain ⟨ρ1, e2, e⟩ := bind_some' e
  cases e
  refine ⟨m, B, ρ, p.1, p.2, E, e1, fun v H1 B1 g1 E1 R1 => ?_⟩
  obtain ⟨B2, g2, E2⟩ := store_ok' E1 R1 e2
  exact k _ H1 B2 (g1.trans g2) E2⟩
theorem ds_asgG {tg : Expr} {tv : List Nat} {g : SG} (he : DE X e fe) (hg : DG X tg tv g) (hs : swapsWithSole [tg] e pos.line X.env = pure false := by rfl) (hw : swappedStores [tg] e X.env = pure none := by rfl) (h1 : (assignEach [tg] X.env).map (·.2) = [assign tg X.env] := by rfl) : DS X (.Assign [tg] e pos) (dAsgG g fe) := ⟨PS.imp (ps_asg he.pe hg.pg hs hw h1) fun D σ H q => by
  obtain ⟨m, B, ρ, fl, ρ', E, e, k⟩ := q
  obtain ⟨p, e1, e⟩ := bind_some' e
  obtain ⟨w, e2, e⟩ := bind_some' e
  obtain ⟨ρ1, e3, e⟩ := bind_some' e
  cases e
  refine ⟨m, B, ρ, p.1, p.2, E, e1, fun v H1 B1 g1 E1 R1 => ?_⟩
  obtain ⟨B2, g2, E2, R2⟩ := settle_ok (d := w.1) (ρ' := w.2) E1 R1 e2
  exact ⟨m, B2, w.2, w.1, _, E2, R2, e3, fun σ' E' _ => k σ' H1 B2 (g1.trans g2) E'⟩⟩
theorem ds_expr (he : DE X e fe) (hs : swapsWith e none pos.line X.env = pure false := by rfl) : DS X (.Expr e pos) (dExpr fe) := ⟨PS.imp (ps_expr he.pe hs) fun D σ H q => by
  obtain ⟨m, B, ρ, fl, ρ', E, e, k⟩ := q
  obtain ⟨p, e1, e⟩ := bind_some' e
  cases e
  exact ⟨m, B, ρ, p.1, p.2, E, e1, fun v H1 B1 g1 E1 R1 => k σ H1 B1 g1 E1⟩⟩
theorem ds_ret (he : DE X e fe) : DS X (.Return (some e) pos) (dRet fe) := ⟨PS.imp (ps_ret he.pe) fun D σ H q => by
  obtain ⟨m, B, ρ, fl, ρ', E, e, k⟩ := q
  obtain ⟨p, e1, e⟩ := bind_some' e
  cases e
  exact ⟨m, B, ρ, p.1, p.2, E, e1, fun v H1 B1 g1 E1 R1 => k σ H1 B1 g1 E1 v R1⟩⟩
theorem ds_retN : DS X (.Return none pos) dRetN := ⟨PS.imp ps_retN fun D σ H q => by
  obtain ⟨m, B, ρ, fl, ρ', E, e, k⟩ := q
  cases e
  exact k σ H B (Grow.refl m B) E _ Rp.non⟩
theorem ds_if {a b : List Stmt} (hc : DT X c h) (ha : DSs X a f) (hb : DSs X b g) : DS X (.If c a b pos) (dIfS h f g) := ⟨PS.imp (ps_if hc.pt ha.ps hb.ps) fun D σ H q => by
  obtain ⟨m, B, ρ, fl, ρ', E, e, k⟩ := q
  obtain ⟨p, e1, e⟩ := bind_some' e
  refine ⟨m, B, ρ, p.1, p.2, E, e1, fun H1 B1 g1 E1 => ?_⟩
  cases hp : p.1 with
  | true =>
    rw [hp] at e
    exact ⟨m, B1, p.2, fl, ρ', E1, e, fun σ2 H2 B2 g2 E2 => k σ2 H2 B2 (g1.trans g2) E2⟩
  | false =>
    rw [hp] at e
    exact ⟨m, B1, p.2, fl, ρ', E1, e, fun σ2 H2 B2 g2 E2 => k σ2 H2 B2 (g1.trans g2) E2⟩⟩
theorem ds_aug {i : Nat} {x : Str} {op : Operator} {o : Int → Int → Int} {pos' : Pos} (hN : X.N.Nodup) (he : DE X e fe) (ho : PIp X op (ipI o)) (hi : X.N[i]? = some x := by rfl) (hx : Loc X.env.scope x := by first | exact Or.inl rfl | exact Or.inr rfl)
    (hf : X.fn x = true ∨ X.env.scope.names.lookup x = some .local := by first | exact .inl rfl | exact .inr rfl) : DS X (.AugAssign (.Name x pos') op e pos) (dAug i o fe) := ⟨PS.imp (ps_aug hN hi hx he.pe ho hf) fun D σ H q => by
  obtain ⟨m, B, ρ, fl, ρ', E, e, k⟩ := q
  unfold dAug at e
  split at e
  · rename_i a hi0
    obtain ⟨p, e1, e⟩ := bind_some' e
    split at e
    · rename_i b hb
      cases e
      obtain ⟨v, q1, q2, _⟩ := E.have_ i _ hi0
      have q2 : Rp B v (.int a) := q2
      cases q2
      refine ⟨_, q1, m, B, ρ, p.1, p.2, E, e1, fun y H1 B1 g1 E1 R1 => ?_⟩
      rw [hb] at R1
      have R1 : Rp B1 y (.int b) := R1
      cases R1
      exact ⟨a, b, rfl, rfl, k _ H1 B1 g1 (E1.setVal (.int _))⟩
    · cases e
  · cases e⟩
end
/-- a[i] = e, a list of one's own -/
def dSetI (i : Nat) (ix : SE) (f : SE) : SS := fun ρ => (f ρ).bind fun p => (settle p.1 p.2).bind fun w => match w.2[i]? with
  | some (some (.own _ _)) => (ix w.2).bind fun q => match q.1, q.2[i]? with
    | .val (.int k), some (some (.own b ds)) => (ixN ds.length k).bind fun j => some (.nx, q.2.set i (some (.own b (ds.set j w.1))))
    | _, _ => none
  | _ => none
theorem ds_setI {X : Cx} {i : Nat} {x : Str} {ei e : Expr} {fi fe : SE} {pos pos' npos : Pos} (he : DE X e fe) (hix : DE X ei fi) (hN : X.N[i]? = some x := by rfl)
    (hv : Vis X.env.scope x := by first | exact Or.inl rfl | exact Or.inr (Or.inl rfl) | exact Or.inr (Or.inr rfl)) (hd : (x == ("__debug__" : Str)) = false := by decide) (hcd : (x == ("__classdict__" : Str)) = false := by decide)
    (ha : ∀ v, assign (.Subscript (.Name x npos) ei pos') X.env v = (do
      let ov ← holding [v] (eval (.Name x npos) X.env)
      let iv ← holding [v, ov] (eval ei X.env)
      standAt pos'
      holding [v, ov, iv] (setItem ov iv v)
      release [v, ov, iv] []) := by intro _; rfl)
    (hs : swapsWithSole [.Subscript (.Name x npos) ei pos'] e pos.line X.env = pure false := by rfl) (hw : swappedStores [.Subscript (.Name x npos) ei pos'] e X.env = pure none := by rfl) :
    DS X (.Assign [.Subscript (.Name x npos) ei pos'] e pos) (dSetI i fi fe) := ⟨PS.imp (ps_asg he.pe (pg_sub (pe_var hN hv hd hcd) hix.pe set_list ha) hs hw) fun D σ H q => by
  obtain ⟨m, B, ρ, fl, ρ', E, e, k⟩ := q
  obtain ⟨p, e1, e⟩ := bind_some' e
  obtain ⟨w, e2, e⟩ := bind_some' e
  split at e
  · rename_i b0 ds0 hi0
    obtain ⟨q, e3, e⟩ := bind_some' e
    split at e
    · rename_i kk b ds hk hi
      obtain ⟨j, e4, e⟩ := bind_some' e
      cases e
      refine ⟨m, B, ρ, p.1, p.2, E, e1, fun v H1 B1 g1 E1 R1 => ?_⟩
      obtain ⟨B2, g2, E2, R2⟩ := settle_ok (d := w.1) (ρ' := w.2) E1 R1 e2
      obtain ⟨o, q1, ⟨l, xs, rfl, t1, t2, t3, t4⟩, _⟩ := E2.have_ i _ hi0
      refine ⟨_, q1, m, B2, w.2, q.1, q.2, E2, e3, fun y H3 B3 g3 E3 R3 => ?_⟩
      rw [hk] at R3
      have R3 : Rp B3 y (.int kk) := R3
      cases R3
      obtain ⟨o', q1', ⟨l', xs', rfl, u1, u2, u3, u4⟩, _⟩ := E3.have_ i _ hi
      rw [q1] at q1'
      cases q1'
      refine ⟨l, xs', kk, j, rfl, rfl, u3, by rw [u4.len]; exact e4, k _ _ B3 ((g1.trans g2).trans g3) ?_⟩
      exact E3.setMut hi rfl q1 rfl rfl ⟨l, _, rfl, u1, u2, upd_same, Rps.setAt (R2.up g3.1) j u4⟩
    · cases e
  · cases e⟩

/-! ### loops -/
def ItOk (B : Hp) (J : It) (ds : List D) : Prop := ∀ (i : Nat) (H : Hp), Same B H → (ds.length ≤ i → J.stop i H) ∧
  ∀ d, ds[i]? = some d → J.go i H ∧ ∀ x H', J.yld i H x H' → (H' = H ∧ Rp B x d) ∨ ∃ T xs es, x = .ref T ∧ H T = none ∧ H' = upd H T (.tup xs) ∧ d = .tuple es ∧ Rps B xs es
abbrev SI := Env → Option (List D × Env)
def tI (K : PySem.W.Frag) (f : SI) : TI := fun σ H R => ∃ (m : Fm) (B : Hp) (ρ : Env) (ds : List D) (ρ' : Env), ERep K m B H σ ρ ∧ f ρ = some (ds, ρ') ∧
  ∀ J H' B', Grow m B B' → ERep K m B' H' σ ρ' → ItOk B' J ds → R J H'
structure DI (X : Cx) (tg iter : Expr) (f : SI) : Prop where
  pi : PI X tg iter (tI X.K f)
theorem PI.imp {X : Cx} {tg e : Expr} {t t' : TI} (h : PI X tg e t) (w : ∀ σ H R, t' σ H R → t σ H R) : PI X tg e t' := ⟨fun pins s σ H R I q => h.run pins s σ H R I (w σ H R q)⟩
def forL (g : SG) (b : SS) : List D → Env → Option (Fl × Env)
  | [], ρ => some (.nx, ρ)
  | d :: ds, ρ => (g d ρ).bind fun ρ1 => (b ρ1).bind fun p => match p.1 with
    | .nx => forL g b ds p.2
    | .ct => forL g b ds p.2
    | .bk => some (.nx, p.2)
    | .rt r => some (.rt r, p.2)
def dFor (src : SI) (g : SG) (b : SS) : SS := fun ρ => (src ρ).bind fun p => forL g b p.1 p.2
section
variable {K : PySem.W.Frag} {m : Fm} {B B' H H' : Hp} {σ : L2.St} {ρ ρ' : Env} {v : V} {r : R} {s : Sl} {d : D}
/-- what an iterator yields, as data -/
theorem yld_ok {J : It} {ds : List D} {i : Nat} {x : V} (hJ : ItOk B J ds) {B2 : Hp} (g : Same B B2) (E : ERep K m B2 H σ ρ) (hd : ds[i]? = some d) (hy : J.yld i H x H') : ∃ B3, Grow m B2 B3 ∧ ERep K m B3 H' σ ρ ∧ Rp B3 x d := by
  obtain ⟨_, h2⟩ := hJ i H (g.trans E.bH)
  rcases (h2 d hd).2 x H' hy with ⟨rfl, hr⟩ | ⟨T, xs, es, rfl, hT, rfl, rfl, hr⟩
  · exact ⟨B2, Grow.refl m B2, E, hr.up g⟩
  · obtain ⟨g3, E3⟩ := E.laidIn (o := .tup xs) hT
    exact ⟨_, g3, E3, .tup upd_same (hr.up (g.trans g3.1))⟩
end
section
variable {X : Cx} {tg iter : Expr} {body : List Stmt} {src : SI} {tv : List Nat} {g : SG} {b : SS} {pos : Pos} {c : Expr} {h : ST}
theorem ds_for (hp : PassesOwn (model X.prog X.w) X.A X.env X.xe) (hc : X.calm = true) (hi : DI X tg iter src) (hg : DG X tg tv g) (hb : DSs X body b)
    (hs : ∀ x, foldedSetIterable iter X.env x = pure x := by intro _; rfl) : DS X (.For tg iter body [] pos) (dFor src g b) := ⟨PS.imp (ps_for hp hc hi.pi hg.pg hb.ps hs) fun D σ H q => by
  obtain ⟨m, B, ρ, fl, ρ', E, e, k⟩ := q
  obtain ⟨p, e1, e⟩ := bind_some' e
  refine ⟨m, B, ρ, p.1, p.2, E, e1, fun J H1 B1 g1 E1 hJ => ?_⟩
  refine ⟨fun i n σ H => n = p.1.length - i ∧ i ≤ p.1.length ∧ ∃ B2 ρi, Grow m B1 B2 ∧ ERep X.K m B2 H σ ρi ∧ forL g b (p.1.drop i) ρi = some (fl, ρ'), ⟨p.1.length - 0, rfl, Nat.zero_le _, B1, p.2, Grow.refl m B1, E1, e⟩, fun i n σ H hW => ?_⟩
  obtain ⟨en, hle, B2, ρi, g2, E2, el⟩ := hW
  by_cases hlt : i < p.1.length
  · have hd : p.1[i]? = some p.1[i] := List.getElem?_eq_getElem hlt
    rw [List.drop_eq_getElem_cons hlt] at el
    unfold forL at el
    obtain ⟨ρ1, el1, el⟩ := bind_some' el
    obtain ⟨w, el2, el⟩ := bind_some' el
    refine .inr ⟨((hJ i H (g2.1.trans E2.bH)).2 _ hd).1, fun σ' H' => p.1.length - (i + 1) = p.1.length - (i + 1) ∧ i + 1 ≤ p.1.length ∧ ∃ B2 ρi, Grow m B1 B2 ∧ ERep X.K m B2 H' σ' ρi ∧ forL g b (p.1.drop (i + 1)) ρi = some (fl, ρ'), fun σ' H' hN => ⟨p.1.length - (i + 1), by omega, hN⟩, fun x H' hy => ?_⟩
    obtain ⟨B3, g3, E3, hr⟩ := yld_ok hJ g2.1 E2 hd hy
    refine ⟨m, B3, ρi, p.1[i], ρ1, E3, hr, el1, fun σ2 E4 _ => ?_⟩
    refine ⟨m, B3, ρ1, w.1, w.2, E4, by rw [el2], fun σ5 H5 B5 g5 E5 => ?_⟩
    have gg : Grow m B1 B5 := (g2.trans g3).trans g5
    cases hw : w.1 with
    | nx =>
      rw [hw] at el
      exact ⟨rfl, hlt, B5, w.2, gg, E5, el⟩
    | ct =>
      rw [hw] at el
      exact ⟨rfl, hlt, B5, w.2, gg, E5, el⟩
    | bk =>
      rw [hw] at el
      cases el
      exact k σ5 H5 B5 (g1.trans gg) E5
    | rt r =>
      rw [hw] at el
      cases el
      exact k σ5 H5 B5 (g1.trans gg) E5
  · have hge : p.1.length ≤ i := by omega
    rw [List.drop_eq_nil_of_le hge] at el
    cases el
    exact .inl ⟨(hJ i H (g2.1.trans E2.bH)).1 hge, k σ H B2 (g1.trans g2) E2⟩⟩
def whileN (h : ST) (b : SS) : Nat → Env → Option (Fl × Env)
  | 0, _ => none
  | n + 1, ρ => (h ρ).bind fun p => if p.1 then (b p.2).bind fun q => match q.1 with
    | .nx => whileN h b n q.2
    | .ct => whileN h b n q.2
    | .bk => some (.nx, q.2)
    | .rt r => some (.rt r, q.2)
    else some (.nx, p.2)
@[irreducible] def FUEL : Nat := 100000000
def dWhile (h : ST) (b : SS) : SS := fun ρ => whileN h b FUEL ρ
theorem ds_while (hp : PassesOwn (model X.prog X.w) X.A X.env X.xe) (hc : DT X c h) (hb : DSs X body b) : DS X (.While c body [] pos) (dWhile h b) := ⟨PS.imp (ps_while hp hc.pt hb.ps) fun D σ H q => by
  obtain ⟨m, B, ρ, fl, ρ', E, e, k⟩ := q
  refine ⟨fun n σ H => ∃ B2 ρi, Grow m B B2 ∧ ERep X.K m B2 H σ ρi ∧ whileN h b n ρi = some (fl, ρ'), ⟨FUEL, B, ρ, Grow.refl m B, E, e⟩, fun n σ H hW => ?_⟩
  obtain ⟨B2, ρi, g2, E2, el⟩ := hW
  cases n with
  | zero => cases el
  | succ n =>
    unfold whileN at el
    obtain ⟨p, el1, el⟩ := bind_some' el
    refine ⟨m, B2, ρi, p.1, p.2, E2, el1, fun H3 B3 g3 E3 => ?_⟩
    cases hp : p.1 with
    | true =>
      rw [hp, if_pos rfl] at el
      rw [if_pos rfl]
      obtain ⟨w, el2, el⟩ := bind_some' el
      refine ⟨fun σ' H' => ∃ B2 ρi, Grow m B B2 ∧ ERep X.K m B2 H' σ' ρi ∧ whileN h b n ρi = some (fl, ρ'), fun σ' H' hN => ⟨n, Nat.lt_succ_self n, hN⟩, ?_⟩
      refine ⟨m, B3, p.2, w.1, w.2, E3, el2, fun σ5 H5 B5 g5 E5 => ?_⟩
      have gg : Grow m B B5 := (g2.trans g3).trans g5
      cases hw : w.1 with
      | nx =>
        rw [hw] at el
        exact ⟨B5, w.2, gg, E5, el⟩
      | ct =>
        rw [hw] at el
        exact ⟨B5, w.2, gg, E5, el⟩
      | bk =>
        rw [hw] at el
        cases el
        exact k σ5 H5 B5 gg E5
      | rt r =>
        rw [hw] at el
        cases el
        exact k σ5 H5 B5 gg E5
    | false =>
      rw [hp, if_neg Bool.false_ne_true] at el
      rw [if_neg Bool.false_ne_true]
      cases el
      exact k σ H3 B3 (g2.trans g3) E3⟩
end
/-! ### what loops go over -/
def iSeq (f : SE) : SI := fun ρ => (f ρ).bind fun p => (settle p.1 p.2).bind fun w => match w.1 with
  | .list ds => some (ds, w.2)
  | _ => none
def iTupS (f : SE) : SI := fun ρ => (f ρ).bind fun p => (settle p.1 p.2).bind fun w => match w.1 with
  | .tuple ds => some (ds, w.2)
  | _ => none
def rangeD (lo : Int) (n : Nat) : List D := (List.range n).map fun i => .int (lo + (i : Nat))
def iRng1' (a : SA) : SI := fun ρ => (a ρ).bind fun p => match p.1 with
  | [.val (.int j)] => if -(2 ^ 62) ≤ j ∧ j < 2 ^ 62 then some (rangeD 0 j.toNat, p.2) else none
  | _ => none
def iRng2' (a : SA) : SI := fun ρ => (a ρ).bind fun p => match p.1 with
  | [.val (.int i), .val (.int j)] => if -(2 ^ 62) ≤ i ∧ i < 2 ^ 62 ∧ -(2 ^ 62) ≤ j ∧ j < 2 ^ 62 then some (rangeD i (j - i).toNat, p.2) else none
  | _ => none
theorem rangeD_get {lo : Int} {n i : Nat} {d : D} (h : (rangeD lo n)[i]? = some d) : i < n ∧ d = .int (lo + (i : Nat)) := by
  unfold rangeD at h
  rw [List.getElem?_map] at h
  by_cases hi : i < n
  · rw [List.getElem?_range hi] at h
    cases h
    exact ⟨hi, rfl⟩
  · rw [List.getElem?_eq_none (by simpa using hi)] at h
    cases h
theorem rangeD_len (lo : Int) (n : Nat) : (rangeD lo n).length = n := by
  unfold rangeD
  rw [List.length_map, List.length_range]
theorem itOk_range {B : Hp} (lo : Int) (n : Nat) : ItOk B (Itr lo n) (rangeD lo n) := fun i H e => by
  refine ⟨fun h => by rw [rangeD_len] at h; exact h, fun d hd => ?_⟩
  obtain ⟨h1, rfl⟩ := rangeD_get hd
  exact ⟨h1, fun x H' hy => .inl ⟨hy.1, by rw [hy.2]; exact .int _⟩⟩
theorem same_inj_l {K : PySem.W.Frag} {H : Hp} {a : Addr} {xs : List V} (h : H a = some (.lst xs)) : SqL K H a xs := SqL.of h
theorem itOk_list {K : PySem.W.Frag} {B : Hp} {a : Addr} {xs : List V} {ds : List D} (h : B a = some (.lst xs)) (hr : Rps B xs ds) : ItOk B (Itl K a) ds := fun i H e => by
  have hH := e _ _ h
  refine ⟨fun hl => ⟨xs, SqL.of hH, by rw [hr.len]; exact hl⟩, fun d hd => ?_⟩
  obtain ⟨v, h1, h2⟩ := hr.at hd
  refine ⟨⟨xs, v, SqL.of hH, h1⟩, fun x H' hy => .inl ⟨hy.1, ?_⟩⟩
  have := hy.2 xs (SqL.of hH)
  rw [h1] at this
  cases this
  exact h2
theorem itOk_tup {K : PySem.W.Frag} {B : Hp} {a : Addr} {xs : List V} {ds : List D} (h : B a = some (.tup xs)) (hr : Rps B xs ds) : ItOk B (Itt K a) ds := fun i H e => by
  have hH := e _ _ h
  refine ⟨fun hl => ⟨xs, SqT.of hH, by rw [hr.len]; exact hl⟩, fun d hd => ?_⟩
  obtain ⟨v, h1, h2⟩ := hr.at hd
  refine ⟨⟨xs, v, SqT.of hH, h1⟩, fun x H' hy => .inl ⟨hy.1, ?_⟩⟩
  have := hy.2 xs (SqT.of hH)
  rw [h1] at this
  cases this
  exact h2
section
variable {X : Cx} {tg e e2 : Expr} {f : SE} {a : SA} {p pos : Pos}
theorem di_list (h : DE X e f) : DI X tg e (iSeq f) := ⟨PI.imp (pi_list h.pe) fun σ H R q => by
  obtain ⟨m, B, ρ, ds, ρ', E, e, k⟩ := q
  obtain ⟨p, e1, e⟩ := bind_some' e
  obtain ⟨w, e2, e⟩ := bind_some' e
  split at e
  · rename_i ds' hds
    cases e
    refine ⟨m, B, ρ, p.1, p.2, E, e1, fun v H1 B1 g1 E1 R1 => ?_⟩
    obtain ⟨B2, g2, E2, R2⟩ := settle_ok (d := w.1) (ρ' := w.2) E1 R1 e2
    rw [hds] at R2
    cases R2 with
    | lst q1 q2 => exact ⟨_, rfl, ⟨_, SqL.of (E2.bH _ _ q1)⟩, k _ H1 B2 (g1.trans g2) E2 (itOk_list q1 q2)⟩
  · cases e⟩
theorem di_tup (h : DE X e f) : DI X tg e (iTupS f) := ⟨PI.imp (pi_tup h.pe) fun σ H R q => by
  obtain ⟨m, B, ρ, ds, ρ', E, e, k⟩ := q
  obtain ⟨p, e1, e⟩ := bind_some' e
  obtain ⟨w, e2, e⟩ := bind_some' e
  split at e
  · rename_i ds' hds
    cases e
    refine ⟨m, B, ρ, p.1, p.2, E, e1, fun v H1 B1 g1 E1 R1 => ?_⟩
    obtain ⟨B2, g2, E2, R2⟩ := settle_ok (d := w.1) (ρ' := w.2) E1 R1 e2
    rw [hds] at R2
    cases R2 with
    | tup q1 q2 => exact ⟨_, rfl, ⟨_, SqT.of (E2.bH _ _ q1)⟩, k _ H1 B2 (g1.trans g2) E2 (itOk_tup q1 q2)⟩
  · cases e⟩
theorem di_range1 (hm : X.mg "range" = none) (ha : DA X [e] a) (hg : Gl X "range" := by rfl) (hs : starEach [e] X.env = [(false, eval e X.env)] := by rfl) : DI X tg (.Call (.Name "range" p) [e] [] pos) (iRng1' a) := ⟨PI.imp (pi_range1 hg hm ha.pa hs) fun σ H R q => by
  obtain ⟨m, B, ρ, ds, ρ', E, e, k⟩ := q
  obtain ⟨w, e1, e⟩ := bind_some' e
  split at e
  · rename_i j hj
    split at e
    · rename_i hb
      cases e
      refine ⟨m, B, ρ, w.1, w.2, E, e1, fun vs H1 B1 g1 E1 R1 => ?_⟩
      rw [hj] at R1
      obtain ⟨v, ws, rfl, r1, r2⟩ := R1
      have r2 : ws = [] := r2
      have r1 : Rp B1 v (.int j) := r1
      cases r1
      exact ⟨j, by rw [r2], hb.1, hb.2, k _ H1 B1 g1 E1 (itOk_range 0 _)⟩
    · cases e
  · cases e⟩
theorem di_range2 (hm : X.mg "range" = none) (ha : DA X [e, e2] a) (hg : Gl X "range" := by rfl) (hs : starEach [e, e2] X.env = [(false, eval e X.env), (false, eval e2 X.env)] := by rfl) (hs2 : starEach [e2] X.env = [(false, eval e2 X.env)] := by rfl) :
    DI X tg (.Call (.Name "range" p) [e, e2] [] pos) (iRng2' a) := ⟨PI.imp (pi_range2 hg hm ha.pa hs hs2) fun σ H R q => by
  obtain ⟨m, B, ρ, ds, ρ', E, e, k⟩ := q
  obtain ⟨w, e1, e⟩ := bind_some' e
  split at e
  · rename_i i j hj
    split at e
    · rename_i hb
      cases e
      refine ⟨m, B, ρ, w.1, w.2, E, e1, fun vs H1 B1 g1 E1 R1 => ?_⟩
      rw [hj] at R1
      obtain ⟨v, ws, rfl, r1, r2⟩ := R1
      obtain ⟨v', ws', rfl, r3, r4⟩ := r2
      have r4 : ws' = [] := r4
      have r1 : Rp B1 v (.int i) := r1
      have r3 : Rp B1 v' (.int j) := r3
      cases r1
      cases r3
      exact ⟨i, j, by rw [r4], hb, k _ H1 B1 g1 E1 (itOk_range i _)⟩
    · cases e
  · cases e⟩
end
end DL

namespace DL
open PySem PySem.Spec PyProof.Rows L2

/-! ### calls of the text's own defs -/
/-- the arguments, as the callee has them -/
def argSl (ρ : Env) : List R → Option (List Sl)
  | [] => some []
  | .val d :: rs => (argSl ρ rs).bind fun ss => some (.val d :: ss)
  | .at i :: rs => match ρ[i]? with
    | some (some (.own _ ds)) => (argSl ρ rs).bind fun ss => some (.own true ds :: ss)
    | some (some (.dic _ kvs)) => (argSl ρ rs).bind fun ss => some (.dic true kvs :: ss)
    | some (some (.scr ns)) => (argSl ρ rs).bind fun ss => some (.scr ns :: ss)
    | _ => none
  | .new _ :: _ => none
def lentAt : List R → List Nat
  | [] => []
  | .at i :: rs => i :: lentAt rs
  | _ :: rs => lentAt rs
/-- what the callee leaves in the lent things -/
def outSl : Sl → Option Sl → Option Sl
  | .own _ _, some (.own true ds) => some (.own true ds)
  | .dic _ _, some (.dic true kvs) => some (.dic true kvs)
  | _, _ => none
def outs : List Sl → Env → Env
  | [], _ => []
  | s :: ss, ρ => outSl s ρ.head?.join :: outs ss ρ.tail
def retR : R → Env → Option R
  | .val d, _ => some (.val d)
  | .new s, _ => some (.new s)
  | .at i, ρ => match ρ[i]? with
    | some (some (.val d)) => some (.val d)
    | some (some (.own false ds)) => some (.new (.own false ds))
    | some (some (.dic false kvs)) => some (.new (.dic false kvs))
    | _ => none
def callF (b : SS) (n : Nat) (args : List Sl) : Option (R × Env) := (b (args.map some ++ List.replicate (n - args.length) none)).bind fun q => match q.1 with
  | .rt r => (retR r q.2).bind fun w => some (w, outs args q.2)
  | .nx => some (.val .none, outs args q.2)
  | _ => none
/-- the caller's slots behind the call -/
def putBack : List R → Env → Env → Env
  | [], _, ρ => ρ
  | .at i :: rs, os, ρ => putBack rs os.tail (match ρ[i]? with
    | some (some (.own p _)) => ρ.set i (match os.head? with
      | some (some (.own _ ds)) => some (.own p ds)
      | _ => none)
    | some (some (.dic p _)) => ρ.set i (match os.head? with
      | some (some (.dic _ kvs)) => some (.dic p kvs)
      | _ => none)
    | _ => ρ)
  | _ :: rs, os, ρ => putBack rs os.tail ρ
def dCall (b : SS) (n : Nat) (a : SA) : SE := fun ρ => (a ρ).bind fun p => (argSl p.2 p.1).bind fun args => if (lentAt p.1).Nodup then (callF b n args).bind fun q => some (q.1, putBack p.1 q.2 p.2) else none
def spD (K : PySem.W.Frag) (b : SS) (n l : Nat) : Sp := fun vs H Q _ => ∃ (m : Fm) (B : Hp) (args : List Sl) (r : R) (os : Env), ERep K m B H (vs.map some) (args.map some) ∧ vs.length = l ∧ callF b n args = some (r, os) ∧
  ∀ v H' B', Grow m B B' → ERep K m B' H' (vs.map some) os → RRep K m B' H' (vs.map some) os r v → Q v H'

section
variable {K : PySem.W.Frag} {m : Fm} {B B' H H' : Hp} {σ : L2.St} {ρ ρ' : Env} {v : V} {r : R} {s : Sl} {d : D}
theorem outs_len : ∀ (args : List Sl) (ρ : Env), (outs args ρ).length = args.length
  | [], _ => rfl
  | s :: ss, ρ => by
    unfold outs
    rw [List.length_cons, List.length_cons, outs_len ss ρ.tail]
theorem outs_get : ∀ {args : List Sl} {ρ : Env} {j : Nat} {s : Sl}, (outs args ρ)[j]? = some (some s) → ρ[j]? = some (some s) ∧ s.mine = true ∧ s.lent = true ∧ ∃ t, args[j]? = some t ∧ t.mine = true
  | [], _, _, _, h => by simp [outs] at h
  | t :: ts, ρ, 0, s, h => by
    unfold outs at h
    rw [List.getElem?_cons_zero] at h
    have h := Option.some.inj h
    cases ρ with
    | nil =>
      rw [List.head?_nil] at h
      cases t <;> cases h
    | cons o ρ =>
      rw [List.head?_cons] at h
      have h : outSl t o = some s := h
      unfold outSl at h
      split at h
      · cases h
        exact ⟨rfl, rfl, rfl, _, rfl, rfl⟩
      · cases h
        exact ⟨rfl, rfl, rfl, _, rfl, rfl⟩
      · cases h
  | t :: ts, ρ, j + 1, s, h => by
    unfold outs at h
    rw [List.getElem?_cons_succ] at h
    obtain ⟨h1, h2, h3, h4⟩ := outs_get h
    refine ⟨?_, h2, h3, by rw [List.getElem?_cons_succ]; exact h4⟩
    cases ρ with
    | nil => simp at h1
    | cons o ρ => rw [List.getElem?_cons_succ]; exact h1
/-- the entry's environment -/
theorem erep_start {N : List Str} {vs : List V} {args : List Sl} (E : ERep K m B H (vs.map some) (args.map some)) (hn : vs.length ≤ N.length) : ERep K m B H (L2.start N vs) (args.map some ++ List.replicate (N.length - args.length) none) := by
  have hl : args.length = vs.length := by
    have := E.len
    simpa using this
  have get : ∀ {i : Nat} {s : Sl}, (args.map some ++ List.replicate (N.length - args.length) none)[i]? = some (some s) → (args.map some)[i]? = some (some s) ∧ i < args.length := fun {i s} h => by
    by_cases hi : i < args.length
    · rw [List.getElem?_append_left (by simpa using hi)] at h
      exact ⟨h, hi⟩
    · rw [List.getElem?_append_right (by simpa using hi)] at h
      rw [List.getElem?_replicate] at h
      split at h
      · cases h
      · cases h
  have gv : ∀ {i : Nat}, i < args.length → (L2.start N vs)[i]? = (vs.map some)[i]? := fun {i} h => by
    unfold L2.start
    rw [List.getElem?_append_left (by rw [List.length_map]; omega)]
  refine ⟨E.bH, E.fH, ?_, fun i s h => ?_, fun i j a hne o1 o2 => ?_⟩
  · unfold L2.start
    simp
    omega
  · obtain ⟨h1, h2⟩ := get h
    rw [gv h2]
    exact E.have_ i s h1
  · obtain ⟨s, q, q'⟩ := o1
    obtain ⟨t, w, w'⟩ := o2
    obtain ⟨q1, q2⟩ := get q
    obtain ⟨w1, w2⟩ := get w
    rw [gv q2, gv w2]
    exact E.apart i j a hne ⟨s, q1, q'⟩ ⟨t, w1, w'⟩
/-- the end's: what the caller gets back -/
theorem erep_end {vs : List V} {args : List Sl} (E0 : ERep K m B H (vs.map some) (args.map some)) (h1 : ∀ (j : Nat) (s : Sl), args[j]? = some s → s.mine = true → s.lent = true) (E : ERep K m B' H' σ ρ') : ERep K m B' H' (vs.map some) (outs args ρ') ∧
    ∀ (j : Nat) (s : Sl), (outs args ρ')[j]? = some (some s) → (vs.map some)[j]? = σ[j]? ∧ ρ'[j]? = some (some s) := by
  have hl : args.length = vs.length := by
    have := E0.len
    simpa using this
  have key : ∀ (j : Nat) (s : Sl), (outs args ρ')[j]? = some (some s) → (vs.map some)[j]? = σ[j]? ∧ ρ'[j]? = some (some s) := fun j s h => by
    obtain ⟨q1, q2, q3, t, q4, q5⟩ := outs_get h
    obtain ⟨w, e1, e2, e3⟩ := E.have_ j s q1
    obtain ⟨w', e1', e2', e3'⟩ := E0.have_ j t (by rw [List.getElem?_map, q4]; rfl)
    rw [e1', e1, e3 q3, e3' (h1 j t q4 q5)]
    exact ⟨rfl, q1⟩
  refine ⟨⟨E.bH, E.fH, by rw [outs_len, List.length_map, hl], fun j s h => ?_, fun i j a hne o1 o2 => ?_⟩, key⟩
  · obtain ⟨q1, q2⟩ := key j s h
    rw [q1]
    exact E.have_ j s q2
  · obtain ⟨s, q, q'⟩ := o1
    obtain ⟨t, w, w'⟩ := o2
    obtain ⟨q1, q2⟩ := key i s q
    obtain ⟨w1, w2⟩ := key j t w
    rw [q1, w1]
    exact E.apart i j a hne ⟨s, q2, q'⟩ ⟨t, w2, w'⟩
theorem ret_ok {w : R} {os : Env} {vs : List V} (E : ERep K m B H σ ρ) (h : RRep K m B H σ ρ r v) (e : retR r ρ = some w) (hos : ∀ (j : Nat) (s : Sl), os[j]? = some (some s) → (vs.map some)[j]? = σ[j]? ∧ ρ[j]? = some (some s) ∧ s.lent = true) : RRep K m B H (vs.map some) os w v := by
  cases r with
  | val d =>
    cases e
    exact h
  | new s =>
    cases e
    obtain ⟨h1, h2, h3, h4⟩ := h
    refine ⟨h1, h2, h3, fun j ⟨t, q, q'⟩ => ?_⟩
    obtain ⟨w1, w2, _⟩ := hos j t q
    rw [w1]
    exact h4 j ⟨t, w2, q'⟩
  | «at» i =>
    unfold retR at e
    dsimp only at e
    have hσ : σ[i]? = some (some v) := h
    split at e
    · rename_i d hi
      cases e
      obtain ⟨w, e1, e2, _⟩ := E.have_ i _ hi
      rw [hσ] at e1
      cases e1
      exact e2
    · rename_i ds hi
      cases e
      obtain ⟨w, e1, e2, _⟩ := E.have_ i _ hi
      rw [hσ] at e1
      cases e1
      refine ⟨rfl, rfl, e2, fun j ⟨t, q, q'⟩ => ?_⟩
      obtain ⟨w1, w2, w3⟩ := hos j t q
      rw [w1]
      obtain ⟨a, rfl, _⟩ := mine_ref (s := .own false ds) rfl e2
      refine E.apart i j a (fun z => ?_) ⟨_, hi, rfl⟩ ⟨t, w2, q'⟩ hσ
      subst z
      rw [hi] at w2
      cases w2
      cases w3
    · rename_i ds hi
      cases e
      obtain ⟨w, e1, e2, _⟩ := E.have_ i _ hi
      rw [hσ] at e1
      cases e1
      refine ⟨rfl, rfl, e2, fun j ⟨t, q, q'⟩ => ?_⟩
      obtain ⟨w1, w2, w3⟩ := hos j t q
      rw [w1]
      obtain ⟨a, rfl, _⟩ := mine_ref (s := .dic false ds) rfl e2
      refine E.apart i j a (fun z => ?_) ⟨_, hi, rfl⟩ ⟨t, w2, q'⟩ hσ
      subst z
      rw [hi] at w2
      cases w2
      cases w3
    · cases e
end
section
variable {P : Program} {w : World} {K : PySem.W.Frag} {mg : Str → Option Value} {base : Heap}
/-- all one's own arguments are lent -/
def AllLent (args : List Sl) : Prop := ∀ (j : Nat) (s : Sl), args[j]? = some s → s.mine = true → s.lent = true
def spL (K : PySem.W.Frag) (b : SS) (n l : Nat) : Sp := fun vs H Q _ => ∃ (m : Fm) (B : Hp) (args : List Sl) (r : R) (os : Env), ERep K m B H (vs.map some) (args.map some) ∧ AllLent args ∧ vs.length = l ∧ callF b n args = some (r, os) ∧
  ∀ v H' B', Grow m B B' → ERep K m B' H' (vs.map some) os → RRep K m B' H' (vs.map some) os r v → Q v H'
/-- THE RULE for a def -/
theorem fn_ok {x qual : Str} {st : Stmt} {f : Addr} {fd : FuncData} {N ps : List Str} {k : Nat} {b : SS} (F : Fun K x qual st f fd) (S : FnScope N ps (defScope st)) (hp : ps.length ≤ N.length)
    (hbody : ∀ (cdv : Value) (A : Around) (outer : List PySem.Env) (s : Shared) (H : Hp) (E : XK), Room k (A.deeper (envOfC qual (defScope st) s.heap.objs.size f cdv)) → DSs (cxOf CX0 P w K mg base N qual (defScope st) f cdv A outer s H E).nox (defBody st) b) :
    FnOk P w K mg base CX0 (k + 1) f fd ps (spL K b N.length ps.length) := by
  refine F.ok S (fun vs H Q E h => ?_) (fun cdv A outer s H vs Q E hr h => ?_)
  · obtain ⟨m, B, args, r, os, _, _, hl, _⟩ := h
    exact hl
  · obtain ⟨m, B, args, r, os, E0, hal, hl, hc, k⟩ := h
    refine ⟨_, (hbody cdv A outer s H E hr).ps, ?_⟩
    unfold callF at hc
    obtain ⟨q, h1, hc⟩ := bind_some' hc
    have E1 := erep_start (N := N) E0 (by rw [hl]; exact hp)
    refine ⟨m, B, _, q.1, q.2, E1, h1, fun σ' H' B' g' E' => ?_⟩
    obtain ⟨E2, key⟩ := erep_end E0 hal E'
    cases hq : q.1 with
    | nx =>
      rw [hq] at hc
      cases hc
      exact k .non H' B' g' E2 Rp.non
    | rt r0 =>
      rw [hq] at hc
      obtain ⟨r1, hr1, hc⟩ := bind_some' hc
      cases hc
      refine fun v hv => k v H' B' g' E2 (ret_ok E' hv hr1 fun j s h => ?_)
      obtain ⟨a1, a2⟩ := key j s h
      exact ⟨a1, a2, (outs_get h).2.2.1⟩
    | bk =>
      rw [hq] at hc
      cases hc
    | ct =>
      rw [hq] at hc
      cases hc
end
/-! ### the call -/
section
variable {K : PySem.W.Frag} {m : Fm} {B B' H H' : Hp} {σ : L2.St} {ρ ρ' : Env} {v : V} {r : R} {s : Sl} {d : D}
theorem argSl_get : ∀ {rs : List R} {args : List Sl} {vs : List V}, argSl ρ rs = some args → RReps K m B H σ ρ rs vs → args.length = vs.length ∧ rs.length = vs.length ∧
    ∀ (j : Nat) (s : Sl), args[j]? = some s → ∃ (r : R) (v : V), rs[j]? = some r ∧ vs[j]? = some v ∧ RRep K m B H σ ρ r v ∧ ((∃ d, r = .val d ∧ s = .val d) ∨ ∃ (i : Nat) (t : Sl), r = .at i ∧ ρ[i]? = some (some t) ∧ ((∃ p ds, t = .own p ds ∧ s = .own true ds) ∨ (∃ p kvs, t = .dic p kvs ∧ s = .dic true kvs) ∨ ∃ ns, t = .scr ns ∧ s = .scr ns))
  | [], args, vs, e, h => by
    cases e
    have h : vs = [] := h
    subst h
    exact ⟨rfl, rfl, fun j s q => by simp at q⟩
  | r :: rs, args, vs, e, h => by
    obtain ⟨v, ws, rfl, h1, h2⟩ := h
    have step : ∀ {s0 : Sl} {ss : List Sl}, argSl ρ rs = some ss → args = s0 :: ss →
        ((∃ d, r = .val d ∧ s0 = .val d) ∨ ∃ (i : Nat) (t : Sl), r = .at i ∧ ρ[i]? = some (some t) ∧ ((∃ p ds, t = .own p ds ∧ s0 = .own true ds) ∨ (∃ p kvs, t = .dic p kvs ∧ s0 = .dic true kvs) ∨ ∃ ns, t = .scr ns ∧ s0 = .scr ns)) →
        args.length = (v :: ws).length ∧ (r :: rs).length = (v :: ws).length ∧ ∀ (j : Nat) (s : Sl), args[j]? = some s → ∃ (r' : R) (v' : V), (r :: rs)[j]? = some r' ∧ (v :: ws)[j]? = some v' ∧ RRep K m B H σ ρ r' v' ∧ ((∃ d, r' = .val d ∧ s = .val d) ∨ ∃ (i : Nat) (t : Sl), r' = .at i ∧ ρ[i]? = some (some t) ∧ ((∃ p ds, t = .own p ds ∧ s = .own true ds) ∨ (∃ p kvs, t = .dic p kvs ∧ s = .dic true kvs) ∨ ∃ ns, t = .scr ns ∧ s = .scr ns)) := fun {s0 ss} he ea hh => by
      subst ea
      obtain ⟨i1, i2, i3⟩ := argSl_get he h2
      refine ⟨by rw [List.length_cons, List.length_cons, i1], by rw [List.length_cons, List.length_cons, i2], fun j s q => ?_⟩
      cases j with
      | zero =>
        rw [List.getElem?_cons_zero] at q
        cases q
        exact ⟨r, v, rfl, rfl, h1, hh⟩
      | succ j =>
        rw [List.getElem?_cons_succ] at q
        exact i3 j s q
    unfold argSl at e
    cases r with
    | val d =>
      obtain ⟨ss, e1, e⟩ := bind_some' e
      cases e
      exact step e1 rfl (.inl ⟨d, rfl, rfl⟩)
    | new s => cases e
    | «at» i =>
      dsimp only at e
      split at e
      · rename_i p ds hi
        obtain ⟨ss, e1, e⟩ := bind_some' e
        cases e
        exact step e1 rfl (.inr ⟨i, _, rfl, hi, .inl ⟨p, ds, rfl, rfl⟩⟩)
      · rename_i p kvs hi
        obtain ⟨ss, e1, e⟩ := bind_some' e
        cases e
        exact step e1 rfl (.inr ⟨i, _, rfl, hi, .inr (.inl ⟨p, kvs, rfl, rfl⟩)⟩)
      · rename_i ns hi
        obtain ⟨ss, e1, e⟩ := bind_some' e
        cases e
        exact step e1 rfl (.inr ⟨i, _, rfl, hi, .inr (.inr ⟨ns, rfl, rfl⟩)⟩)
      · cases e
theorem lent_inj : ∀ {rs : List R} {j k : Nat} {i : Nat}, (lentAt rs).Nodup → rs[j]? = some (.at i) → rs[k]? = some (.at i) → j = k
  | [], _, _, _, _, h, _ => by simp at h
  | r :: rs, j, k, i, hn, h1, h2 => by
    have mem : ∀ {l : List R} {j : Nat}, l[j]? = some (.at i) → i ∈ lentAt l := by
      intro l
      induction l with
      | nil => intro j h; simp at h
      | cons r l ih =>
        intro j h
        cases j with
        | zero =>
          rw [List.getElem?_cons_zero] at h
          cases h
          exact List.mem_cons_self
        | succ j =>
          rw [List.getElem?_cons_succ] at h
          have := ih h
          cases r with
          | val d => exact this
          | new s => exact this
          | «at» q => exact List.mem_cons_of_mem _ this
    have hn' : (lentAt rs).Nodup := by
      cases r with
      | val d => exact hn
      | new s => exact hn
      | «at» q => exact (List.nodup_cons.mp hn).2
    cases j with
    | zero =>
      rw [List.getElem?_cons_zero] at h1
      cases h1
      cases k with
      | zero => rfl
      | succ k =>
        rw [List.getElem?_cons_succ] at h2
        exact absurd (mem h2) (List.nodup_cons.mp hn).1
    | succ j =>
      rw [List.getElem?_cons_succ] at h1
      cases k with
      | zero =>
        rw [List.getElem?_cons_zero] at h2
        cases h2
        exact absurd (mem h1) (List.nodup_cons.mp hn).1
      | succ k =>
        rw [List.getElem?_cons_succ] at h2
        rw [lent_inj hn' h1 h2]
/-- what stands in a slot behind the call: as before, or handed back -/
theorem putBack_get : ∀ {rs : List R} {os ρ : Env} {i : Nat} {s : Sl}, (putBack rs os ρ)[i]? = some (some s) → (lentAt rs).Nodup →
    (ρ[i]? = some (some s) ∧ ((∀ (j : Nat), rs[j]? ≠ some (.at i)) ∨ s.mine = false)) ∨ ∃ (j : Nat) (t : Sl), rs[j]? = some (.at i) ∧ ρ[i]? = some (some t) ∧ s.lent = t.lent ∧ ((∃ p p' ds ds', s = .own p ds ∧ t = .own p ds' ∧ os[j]? = some (some (.own p' ds))) ∨ ∃ p p' ds ds', s = .dic p ds ∧ t = .dic p ds' ∧ os[j]? = some (some (.dic p' ds)))
  | [], os, ρ, i, s, h, _ => .inl ⟨h, .inl fun j q => by simp at q⟩
  | r :: rs, os, ρ, i, s, h, hn => by
    have nx : ∀ {ρ1 : Env}, (putBack rs os.tail ρ1)[i]? = some (some s) → (lentAt rs).Nodup → (ρ1[i]? = some (some s) ∧ ((∀ (j : Nat), rs[j]? ≠ some (.at i)) ∨ s.mine = false)) ∨ ∃ (j : Nat) (t : Sl), (r :: rs)[j]? = some (.at i) ∧ rs[j - 1]? = some (.at i) ∧ ρ1[i]? = some (some t) ∧ s.lent = t.lent ∧ ((∃ p p' ds ds', s = .own p ds ∧ t = .own p ds' ∧ os[j]? = some (some (.own p' ds))) ∨ ∃ p p' ds ds', s = .dic p ds ∧ t = .dic p ds' ∧ os[j]? = some (some (.dic p' ds))) := fun {ρ1} h1 h2 => by
      rcases putBack_get h1 h2 with q | ⟨j, t, q1, q2, q3, q4⟩
      · exact .inl q
      · have e : ∀ o, os.tail[j]? = some (some o) → os[j + 1]? = some (some o) := fun o z => by
          cases os with
          | nil => simp at z
          | cons a os => rw [List.getElem?_cons_succ]; exact z
        refine .inr ⟨j + 1, t, by rw [List.getElem?_cons_succ]; exact q1, q1, q2, q3, ?_⟩
        rcases q4 with ⟨p, p', ds, ds', z1, z2, z3⟩ | ⟨p, p', ds, ds', z1, z2, z3⟩
        · exact .inl ⟨p, p', ds, ds', z1, z2, e _ z3⟩
        · exact .inr ⟨p, p', ds, ds', z1, z2, e _ z3⟩
    have plain : (putBack rs os.tail ρ)[i]? = some (some s) → (lentAt rs).Nodup → r ≠ .at i → _ := fun h1 h2 hne => nx h1 h2
    cases r with
    | val d =>
      rcases nx h hn with ⟨q1, q2⟩ | ⟨j, t, q1, _, q2, q3, q4⟩
      · refine .inl ⟨q1, q2.imp (fun q2 j z => ?_) id⟩
        cases j with
        | zero => rw [List.getElem?_cons_zero] at z; cases z
        | succ j => rw [List.getElem?_cons_succ] at z; exact q2 j z
      · exact .inr ⟨j, t, q1, q2, q3, q4⟩
    | new d =>
      rcases nx h hn with ⟨q1, q2⟩ | ⟨j, t, q1, _, q2, q3, q4⟩
      · refine .inl ⟨q1, q2.imp (fun q2 j z => ?_) id⟩
        cases j with
        | zero => rw [List.getElem?_cons_zero] at z; cases z
        | succ j => rw [List.getElem?_cons_succ] at z; exact q2 j z
      · exact .inr ⟨j, t, q1, q2, q3, q4⟩
    | «at» a =>
      have hn' := (List.nodup_cons.mp hn).2
      have hna := (List.nodup_cons.mp hn).1
      unfold putBack at h
      have memL : ∀ {l : List R} {j : Nat} {a : Nat}, l[j]? = some (.at a) → a ∈ lentAt l := by
        intro l
        induction l with
        | nil => intro j a h; simp at h
        | cons r l ih =>
          intro j a h
          cases j with
          | zero =>
            rw [List.getElem?_cons_zero] at h
            cases h
            exact List.mem_cons_self
          | succ j =>
            rw [List.getElem?_cons_succ] at h
            have := ih h
            cases r with
            | val d => exact this
            | new s => exact this
            | «at» q => exact List.mem_cons_of_mem _ this
      rcases nx h hn' with ⟨q1, q2⟩ | ⟨j, t, q1, q0, q2, q3, q4⟩
      · by_cases e : a = i
        · subst e
          split at q1
          · rename_i p ds hi
            have hlt : a < ρ.length := (List.getElem?_eq_some_iff.mp hi).1
            rw [List.getElem?_set_self hlt] at q1
            split at q1
            · rename_i p' ds' ho
              cases q1
              refine .inr ⟨0, _, rfl, hi, rfl, .inl ⟨p, p', ds', ds, rfl, rfl, ?_⟩⟩
              cases os with
              | nil => cases ho
              | cons o os => rw [List.head?_cons] at ho; rw [List.getElem?_cons_zero]; exact ho
            · cases q1
          · rename_i p ds hi
            have hlt : a < ρ.length := (List.getElem?_eq_some_iff.mp hi).1
            rw [List.getElem?_set_self hlt] at q1
            split at q1
            · rename_i p' ds' ho
              cases q1
              refine .inr ⟨0, _, rfl, hi, rfl, .inr ⟨p, p', ds', ds, rfl, rfl, ?_⟩⟩
              cases os with
              | nil => cases ho
              | cons o os => rw [List.head?_cons] at ho; rw [List.getElem?_cons_zero]; exact ho
            · cases q1
          · rename_i n1 n2
            refine .inl ⟨q1, .inr ?_⟩
            cases s with
            | val d => rfl
            | own p ds => exact absurd q1 (n1 p ds)
            | dic p ds => exact absurd q1 (n2 p ds)
            | scr ns => rfl
        · have q1' : ρ[i]? = some (some s) := by
            split at q1
            · rw [List.getElem?_set_ne e] at q1; exact q1
            · rw [List.getElem?_set_ne e] at q1; exact q1
            · exact q1
          refine .inl ⟨q1', q2.imp (fun q2 j z => ?_) id⟩
          cases j with
          | zero => rw [List.getElem?_cons_zero] at z; cases z; exact e rfl
          | succ j => rw [List.getElem?_cons_succ] at z; exact q2 j z
      · have e : a ≠ i := fun z => by
          subst z
          exact hna (memL q0)
        refine .inr ⟨j, t, q1, ?_, q3, q4⟩
        split at q2
        · rw [List.getElem?_set_ne e] at q2; exact q2
        · rw [List.getElem?_set_ne e] at q2; exact q2
        · exact q2
theorem putBack_len : ∀ {rs : List R} {os ρ : Env}, (putBack rs os ρ).length = ρ.length
  | [], _, _ => rfl
  | .val _ :: rs, os, ρ => putBack_len (rs := rs) (os := os.tail)
  | .new _ :: rs, os, ρ => putBack_len (rs := rs) (os := os.tail)
  | .at i :: rs, os, ρ => by
    unfold putBack
    rw [putBack_len]
    split
    · rw [List.length_set]
    · rw [List.length_set]
    · rfl
end
end DL

namespace DL
open PySem PySem.Spec PyProof.Rows L2

section
variable {K : PySem.W.Frag} {m : Fm} {B B' H H' : Hp} {σ : L2.St} {ρ ρ' : Env} {v : V} {r : R} {s : Sl} {d : D}
theorem retR_not_at {r : R} {ρ : Env} {i : Nat} : retR r ρ ≠ some (.at i) := fun e => by
  cases r with
  | val d => cases e
  | new s => cases e
  | «at» i0 =>
    unfold retR at e
    dsimp only at e
    split at e <;> cases e
theorem callF_not_at {b : SS} {n : Nat} {args : List Sl} {i : Nat} {os : Env} : callF b n args ≠ some (.at i, os) := fun hc => by
  unfold callF at hc
  obtain ⟨q, e1, hc⟩ := bind_some' hc
  split at hc
  · obtain ⟨w, e2, hc⟩ := bind_some' hc
    cases hc
    exact retR_not_at e2
  · cases hc
  · cases hc
/-- slots of one's own lie apart from the lent ones -/
theorem call_core {b : SS} {n : Nat} {rs : List R} {vs : List V} {args : List Sl} {r : R} {os : Env} {Q : VK} (E : ERep K m B H σ ρ) (hR : RReps K m B H σ ρ rs vs) (ha : argSl ρ rs = some args) (hn : (lentAt rs).Nodup) (hc : callF b n args = some (r, os))
    (k : ∀ v H' B', Grow m B B' → ERep K m B' H' σ (putBack rs os ρ) → RRep K m B' H' σ (putBack rs os ρ) r v → Q v H') (EE : XK) : spL K b n args.length vs H Q EE := by
  obtain ⟨l1, l2, get⟩ := argSl_get ha hR
  -- the lent addresses
  have addr : ∀ (j : Nat) (s : Sl), args[j]? = some s → s.mine = true → ∃ (i : Nat) (t : Sl) (a : Addr), rs[j]? = some (.at i) ∧ ρ[i]? = some (some t) ∧ t.mine = true ∧ vs[j]? = some (.ref a) ∧ σ[i]? = some (some (.ref a)) ∧ B a = none ∧ m.F a = none := fun j s hs hm => by
    obtain ⟨r', v', q1, q2, q3, q4⟩ := get j s hs
    rcases q4 with ⟨d, rfl, rfl⟩ | ⟨i, t, rfl, hi, hh⟩
    · cases hm
    · have hmt : t.mine = true := by
        rcases hh with ⟨p, ds, rfl, rfl⟩ | ⟨p, ds, rfl, rfl⟩ | ⟨ns, rfl, rfl⟩
        · rfl
        · rfl
        · cases hm
      obtain ⟨w, e1, e2, _⟩ := E.have_ i t hi
      obtain ⟨a, rfl, z1, z2, _⟩ := mine_ref hmt e2
      have q3 : σ[i]? = some (some v') := q3
      rw [q3] at e1
      cases e1
      exact ⟨i, t, a, q1, hi, hmt, q2, q3, z1, z2⟩
  let isL : Addr → Prop := fun a => ∃ (j : Nat) (s : Sl), args[j]? = some s ∧ s.mine = true ∧ vs[j]? = some (.ref a)
  have dec : ∀ a, Decidable (isL a) := fun a => Classical.propDecidable _
  let F' : Hp := fun a => match dec a with
    | Decidable.isTrue _ => none
    | Decidable.isFalse _ => H a
  have F'L : ∀ {a}, isL a → F' a = none := fun {a} h => by
    show (match dec a with | Decidable.isTrue _ => none | Decidable.isFalse _ => H a) = none
    cases dec a with
    | «isTrue» _ => rfl
    | «isFalse» q => exact absurd h q
  have F'N : ∀ {a}, ¬ isL a → F' a = H a := fun {a} h => by
    show (match dec a with | Decidable.isTrue _ => none | Decidable.isFalse _ => H a) = H a
    cases dec a with
    | «isTrue» q => exact absurd q h
    | «isFalse» _ => rfl
  have F'S : Same F' H := fun a o e => by
    by_cases h : isL a
    · rw [F'L h] at e; cases e
    · rw [F'N h] at e; exact e
  let m' : Fm := ⟨F', fun j => match vs[j]? with
    | some (.ref a) => a
    | _ => 0⟩
  have m'A : ∀ {j a}, vs[j]? = some (.ref a) → m'.A j = a := fun {j a} h => by
    show (match vs[j]? with | some (.ref a) => a | _ => 0) = a
    rw [h]
  have hal : AllLent args := fun j s hs hm => by
    obtain ⟨r', v', q1, q2, q3, q4⟩ := get j s hs
    rcases q4 with ⟨d, rfl, rfl⟩ | ⟨i, t, rfl, hi, hh⟩
    · cases hm
    · rcases hh with ⟨p, ds, rfl, rfl⟩ | ⟨p, ds, rfl, rfl⟩ | ⟨ns, rfl, rfl⟩
      · rfl
      · rfl
      · cases hm
  have E0 : ERep K m' B H (vs.map some) (args.map some) := by
    refine ⟨E.bH, F'S, by rw [List.length_map, List.length_map, l1], fun j s h => ?_, fun j k a hne o1 o2 h1 => ?_⟩
    · have hs : args[j]? = some s := by
        rw [List.getElem?_map] at h
        cases q : args[j]? with
        | none => rw [q] at h; cases h
        | some t => rw [q] at h; cases h; rfl
      obtain ⟨r', v', q1, q2, q3, q4⟩ := get j s hs
      refine ⟨v', by rw [List.getElem?_map, q2]; rfl, ?_, fun hl => ?_⟩
      · rcases q4 with ⟨d, rfl, rfl⟩ | ⟨i, t, rfl, hi, hh⟩
        · exact q3
        · obtain ⟨w, e1, e2, _⟩ := E.have_ i t hi
          have q3 : σ[i]? = some (some v') := q3
          rw [q3] at e1
          cases e1
          rcases hh with ⟨p, ds, rfl, rfl⟩ | ⟨p, ds, rfl, rfl⟩ | ⟨ns, rfl, rfl⟩
          · obtain ⟨a, xs, rfl, z1, z2, z3, z4⟩ := e2
            exact ⟨a, xs, rfl, z1, F'L ⟨j, _, hs, rfl, q2⟩, z3, z4⟩
          · obtain ⟨a, xs, rfl, z1, z2, z3, z4⟩ := e2
            exact ⟨a, xs, rfl, z1, F'L ⟨j, _, hs, rfl, q2⟩, z3, z4⟩
          · exact e2
      · have hm : s.mine = true := by
          cases s with
          | val d => cases hl
          | own p ds => rfl
          | dic p ds => rfl
          | scr ns => cases hl
        obtain ⟨i, t, a, _, _, _, z, _⟩ := addr j s hs hm
        rw [z] at q2
        cases q2
        rw [m'A z]
    · obtain ⟨s, w1, w2⟩ := o1
      obtain ⟨t, w3, w4⟩ := o2
      have un : ∀ {j : Nat} {s : Sl}, (args.map some)[j]? = some (some s) → args[j]? = some s := fun {j s} h => by
        rw [List.getElem?_map] at h
        cases q : args[j]? with
        | none => rw [q] at h; cases h
        | some t => rw [q] at h; cases h; rfl
      obtain ⟨i1, t1, a1, x1, x2, x3, x4, x5, _⟩ := addr j s (un w1) w2
      obtain ⟨i2, t2, a2, y1, y2, y3, y4, y5, _⟩ := addr k t (un w3) w4
      rw [List.getElem?_map, x4] at h1
      cases h1
      rw [List.getElem?_map, y4]
      intro z
      cases z
      have hi : i1 ≠ i2 := fun z => by
        subst z
        exact hne (lent_inj hn x1 y1)
      exact E.apart i1 i2 _ hi ⟨t1, x2, x3⟩ ⟨t2, y2, y3⟩ x5 y5
  refine ⟨m', B, args, r, os, E0, hal, l1.symm, hc, fun v H2 B2 g2 E2 R2 => ?_⟩
  -- an own slot's address, lent or not
  have ownN : ∀ {i : Nat} {s : Sl} {a : Addr}, ρ[i]? = some (some s) → s.mine = true → σ[i]? = some (some (.ref a)) → (∀ (j : Nat), rs[j]? ≠ some (.at i)) → ¬ isL a := fun {i s a} hi hm hσ hno ⟨j, t, q1, q2, q3⟩ => by
    obtain ⟨i', t', a', x1, x2, x3, x4, x5, _⟩ := addr j t q1 q2
    rw [q3] at x4
    cases x4
    have hne : i ≠ i' := fun z => by
      subst z
      exact hno j x1
    exact E.apart i i' a hne ⟨s, hi, hm⟩ ⟨t', x2, x3⟩ hσ x5
  have FF : Same m.F F' := fun a o e => by
    have hL : ¬ isL a := fun ⟨j, t, q1, q2, q3⟩ => by
      obtain ⟨i', t', a', x1, x2, x3, x4, x5, x6, x7⟩ := addr j t q1 q2
      rw [q3] at x4
      cases x4
      rw [x7] at e
      cases e
    rw [F'N hL]
    exact E.fH a o e
  have gm : Grow m B B2 := ⟨g2.1, fun a h => (g2.2 a h).imp id fun z => by
    cases q : m.F a with
    | none => rfl
    | some o =>
      have := FF a o q
      rw [show m'.F a = F' a from rfl, this] at z
      cases z⟩
  -- a slot of one's own that is not lent stands as it stood
  have keepN : ∀ {i : Nat} {s : Sl} {a : Addr}, ρ[i]? = some (some s) → s.mine = true → σ[i]? = some (some (.ref a)) → (∀ (j : Nat), rs[j]? ≠ some (.at i)) → B2 a = none ∧ H2 a = H a ∧ F' a ≠ none := fun {i s a} hi hm hσ hno => by
    have hL := ownN hi hm hσ hno
    obtain ⟨z1, z2, z3⟩ := E.own_ne ⟨s, hi, hm⟩ hσ
    have hF : F' a = H a := F'N hL
    have hF' : F' a ≠ none := by rw [hF]; exact z3
    refine ⟨?_, ?_, hF'⟩
    · cases q : B2 a with
      | none => rfl
      | some o =>
        rcases g2.2 a (by rw [q]; simp) with w | w
        · exact absurd z1 w
        · exact absurd (show F' a = none from w) hF'
    · cases q : H a with
      | none => exact absurd q z3
      | some o => exact E2.fH a o (by show F' a = some o; rw [hF]; exact q)
  have osGet : ∀ {j : Nat} {s : Sl}, os[j]? = some (some s) → ∃ w, (vs.map some)[j]? = some (some w) ∧ SRep K m' B2 H2 s w := fun {j s} h => by
    obtain ⟨w, e1, e2, _⟩ := E2.have_ j s h
    exact ⟨w, e1, e2⟩
  have slot : ∀ {i : Nat} {s : Sl}, (putBack rs os ρ)[i]? = some (some s) → ∃ v, σ[i]? = some (some v) ∧ SRep K m B2 H2 s v ∧ (s.lent = true → v = .ref (m.A i)) ∧ (s.mine = true → OwnAt ρ i) ∧
      (s.mine = true → ∀ a, v = .ref a → (F' a ≠ none) ∨ ∃ (j : Nat) (t : Sl), os[j]? = some (some t) ∧ t.mine = true ∧ (vs.map some)[j]? = some (some (.ref a))) := fun {i s} h => by
    rcases putBack_get h hn with ⟨q1, q2⟩ | ⟨j, t, q1, q2, q3, q4⟩
    · obtain ⟨w, e1, e2, e3⟩ := E.have_ i s q1
      refine ⟨w, e1, ?_, e3, fun hm => ⟨s, q1, hm⟩, fun hm a ea => ?_⟩
      · rcases q2 with q2 | q2
        · refine SRep.keep e2 g2.1 fun a ea hm => ?_
          obtain ⟨z1, z2, _⟩ := keepN q1 hm (by rw [e1, ea]) q2
          exact ⟨z1, z2⟩
        · refine SRep.keep e2 g2.1 fun a ea hm => ?_
          rw [hm] at q2
          cases q2
      · rcases q2 with q2 | q2
        · exact .inl (keepN q1 hm (by rw [e1, ea]) q2).2.2
        · rw [hm] at q2
          cases q2
    · obtain ⟨w, e1, e2, e3⟩ := E.have_ i t q2
      have hj : j < rs.length := (List.getElem?_eq_some_iff.mp q1).1
      have hja : j < args.length := by omega
      obtain ⟨r', v', z1, z2, z3, z4⟩ := get j args[j] (List.getElem?_eq_getElem hja)
      rw [q1] at z1
      cases z1
      have z3 : σ[i]? = some (some v') := z3
      rw [e1] at z3
      cases z3
      rcases q4 with ⟨p, p', ds, ds', rfl, rfl, w3⟩ | ⟨p, p', ds, ds', rfl, rfl, w3⟩
      · obtain ⟨u, f1, f2⟩ := osGet w3
        rw [List.getElem?_map, z2] at f1
        cases f1
        obtain ⟨a, xs, rfl, t1, t2, t3, t4⟩ := f2
        obtain ⟨_, x2, _⟩ := E.own_ne ⟨_, q2, rfl⟩ e1
        exact ⟨_, e1, ⟨a, xs, rfl, t1, x2, t3, t4⟩, e3, fun _ => ⟨_, q2, rfl⟩, fun _ b eb => .inr ⟨j, _, w3, rfl, by rw [List.getElem?_map, z2, ← eb]; rfl⟩⟩
      · obtain ⟨u, f1, f2⟩ := osGet w3
        rw [List.getElem?_map, z2] at f1
        cases f1
        obtain ⟨a, xs, rfl, t1, t2, t3, t4⟩ := f2
        obtain ⟨_, x2, _⟩ := E.own_ne ⟨_, q2, rfl⟩ e1
        exact ⟨_, e1, ⟨a, xs, rfl, t1, x2, t3, t4⟩, e3, fun _ => ⟨_, q2, rfl⟩, fun _ b eb => .inr ⟨j, _, w3, rfl, by rw [List.getElem?_map, z2, ← eb]; rfl⟩⟩
  have EF : ERep K m B2 H2 σ (putBack rs os ρ) := by
    refine ⟨E2.bH, FF.trans E2.fH, by rw [putBack_len]; exact E.len, fun i s h => ?_, fun i j a hne o1 o2 => ?_⟩
    · obtain ⟨w, e1, e2, e3, _⟩ := slot h
      exact ⟨w, e1, e2, e3⟩
    · obtain ⟨s, q, q'⟩ := o1
      obtain ⟨t, u, u'⟩ := o2
      obtain ⟨_, _, _, _, y1, _⟩ := slot q
      obtain ⟨_, _, _, _, y2, _⟩ := slot u
      exact E.apart i j a hne (y1 q') (y2 u')
  refine k v H2 B2 gm EF ?_
  cases r with
  | val d => exact R2
  | new s =>
    obtain ⟨h1, h2, h3, h4⟩ := R2
    have freeF : ∀ {a : Addr}, F' a = none → m.F a = none := fun {a} z => by
      cases q : m.F a with
      | none => rfl
      | some o =>
        rw [FF a o q] at z
        cases z
    refine ⟨h1, h2, ?_, fun i ⟨t, q, q'⟩ z => ?_⟩
    · cases s with
      | val d => cases h1
      | own p ds =>
        obtain ⟨a, xs, rfl, t1, t2, t3, t4⟩ := h3
        exact ⟨a, xs, rfl, t1, freeF t2, t3, t4⟩
      | dic p ds =>
        obtain ⟨a, xs, rfl, t1, t2, t3, t4⟩ := h3
        exact ⟨a, xs, rfl, t1, freeF t2, t3, t4⟩
      | scr ns => cases h1
    · obtain ⟨a, rfl, z1, z2, z3⟩ := mine_ref h1 h3
      obtain ⟨w, e1, e2, e3, e4, e5⟩ := slot q
      rw [z] at e1
      cases e1
      rcases e5 q' a rfl with f | ⟨j, u, f1, f2, f3⟩
      · exact f z2
      · exact h4 j ⟨u, f1, f2⟩ f3
  | «at» i =>
    exact absurd hc callF_not_at
end
section
variable {X : Cx} {CX : CXT} {k : Nat} {f : Addr} {fd : FuncData} {ps : List Str} {x : Str} {p pos : Pos} {e : Expr} {es : List Expr} {a : SA} {b : SS} {n : Nat}
theorem argSl_len : ∀ {rs : List R} {args : List Sl} {ρ : Env}, argSl ρ rs = some args → args.length = rs.length
  | [], _, _, h => by cases h; rfl
  | r :: rs, _, ρ, h => by
    unfold argSl at h
    cases r with
    | val d =>
      obtain ⟨ss, e1, h⟩ := bind_some' h
      cases h
      rw [List.length_cons, List.length_cons, argSl_len e1]
    | new s => cases h
    | «at» i =>
      dsimp only at h
      split at h
      · obtain ⟨ss, e1, h⟩ := bind_some' h
        cases h
        rw [List.length_cons, List.length_cons, argSl_len e1]
      · obtain ⟨ss, e1, h⟩ := bind_some' h
        cases h
        rw [List.length_cons, List.length_cons, argSl_len e1]
      · obtain ⟨ss, e1, h⟩ := bind_some' h
        cases h
        rw [List.length_cons, List.length_cons, argSl_len e1]
      · cases h
/-- f(..), f a def of the text -/
def dCallN (b : SS) (n l : Nat) (a : SA) : SE := fun ρ => (a ρ).bind fun p => (argSl p.2 p.1).bind fun args => if (lentAt p.1).Nodup ∧ args.length = l then (callF b n args).bind fun q => some (q.1, putBack p.1 q.2 p.2) else none
theorem de_call {l : Nat} (F : FnOk X.prog X.w X.K X.mg X.base CX0 k f fd ps (spL X.K b n l)) (hr : Room k X.A) (hm : X.mg x = some (.ref f)) (hk : PySem.W.keepIn X.K (.ref f) = true) (hb : Binds X.K fd ps [])
    (ha : DA X (e :: es) a) (hg : Gl X x := by rfl) (hdb : (x == ("__debug__" : Str)) = false := by decide) (he : starEach (e :: es) X.env = (false, eval e X.env) :: starEach es X.env := by rfl) (hpl : (backTo pos (starEach es X.env)).any (·.1) = false := by rfl) :
    DE X (.Call (.Name x p) (e :: es) [] pos) (dCallN b n l a) := ⟨PE.imp (pe_call F hr hg hm hk hb .nil (pass0 : Passes CX0 X E0) ha.pa hdb he hpl) fun σ H Q h => by
  obtain ⟨m, B, ρ, r0, ρ', E, e, kk⟩ := h
  obtain ⟨p, h1, e⟩ := bind_some' e
  obtain ⟨args, h2, e⟩ := bind_some' e
  split at e
  · rename_i hn
    obtain ⟨q, h3, e⟩ := bind_some' e
    cases e
    refine ⟨m, B, ρ, p.1, p.2, E, h1, fun vs H1 B1 g1 E1 R1 => ?_⟩
    show spL X.K b n l (vs ++ []) H1 Q E0
    rw [List.append_nil, ← hn.2]
    exact call_core E1 R1 h2 hn.1 h3 (fun v H' B' g' E' R' => kk v H' B' (g1.trans g') E' R') _
  · cases e⟩
theorem de_call0 (F : FnOk X.prog X.w X.K X.mg X.base CX0 k f fd [] (spL X.K b n 0)) (hr : Room k X.A) (hm : X.mg x = some (.ref f)) (hk : PySem.W.keepIn X.K (.ref f) = true) (hb : Binds X.K fd [] [])
    (hg : Gl X x := by rfl) (hdb : (x == ("__debug__" : Str)) = false := by decide) : DE X (.Call (.Name x p) [] [] pos) (dCallN b n 0 aNil) := ⟨PE.imp (pe_call0 F hr hg hm hk hb .nil (pass0 : Passes CX0 X E0) hdb) fun σ H Q h => by
  obtain ⟨m, B, ρ, r0, ρ', E, e, kk⟩ := h
  obtain ⟨p, h1, e⟩ := bind_some' e
  cases h1
  obtain ⟨args, h2, e⟩ := bind_some' e
  split at e
  · rename_i hn
    obtain ⟨q, h3, e⟩ := bind_some' e
    cases e
    show spL X.K b n 0 ([] ++ []) H Q E0
    rw [List.append_nil]
    cases h2
    exact call_core (rs := []) (vs := []) E rfl rfl List.nodup_nil h3 (fun v H' B' g' E' R' => kk v H' B' g' E' R') _
  · cases e⟩
/-- a slot's own thing is lent -/
def aLend (i : Nat) (g : SA) : SA := fun ρ => match ρ[i]? with
  | some (some (.val _)) => none
  | some (some _) => (g ρ).bind fun q => some (.at i :: q.1, q.2)
  | _ => none
theorem da_lend (i : Nat) {y : Str} {pos : Pos} {g : SA} (hg : DA X es g) (hN : X.N[i]? = some y := by rfl) (hv : Vis X.env.scope y := by first | exact Or.inl rfl | exact Or.inr (Or.inl rfl) | exact Or.inr (Or.inr rfl)) (hd : (y == ("__debug__" : Str)) = false := by decide)
    (hcd : (y == ("__classdict__" : Str)) = false := by decide) (hs : starEach (Expr.Name y pos :: es) X.env = (false, eval (Expr.Name y pos) X.env) :: starEach es X.env := by rfl) : DA X (.Name y pos :: es) (aLend i g) := ⟨PA.imp (pa_cons (pe_var hN hv hd hcd) hg.pa hs) fun σ H Q h => by
  obtain ⟨m, B, ρ, rs, ρ', E, e, k⟩ := h
  have go : ∀ {s : Sl}, ρ[i]? = some (some s) → ((g ρ).bind fun q => some (R.at i :: q.1, q.2)) = some (rs, ρ') → tCons (tVar i) (tA X.K g) σ H Q := fun {s} hi e => by
    obtain ⟨q, h1, e⟩ := bind_some' e
    cases e
    obtain ⟨v, e1, _⟩ := E.have_ i s hi
    exact ⟨v, e1, m, B, ρ, q.1, q.2, E, h1, fun vs H1 B1 g1 E1 R1 => k (v :: vs) H1 B1 g1 E1 ⟨v, vs, rfl, e1, R1⟩⟩
  unfold aLend at e
  cases q : ρ[i]? with
  | none => rw [q] at e; cases e
  | some o =>
    cases o with
    | none => rw [q] at e; cases e
    | some s =>
      rw [q] at e
      cases s with
      | val d => cases e
      | own p ds => exact go q e
      | dic p ds => exact go q e
      | scr ns => exact go q e⟩
end

/-! ### comprehensions -/
def wipeE (ρ : Env) : List Nat → Env
  | [] => ρ
  | v :: vs => (wipeE ρ vs).set v none
/-- behind: the outer slots again, where they hold data -/
def restE (ρ0 : Env) : List Nat → Env → Env
  | [], ρ => ρ
  | v :: vs, ρ => (restE ρ0 vs ρ).set v (match ρ0[v]? with
    | some (some (.val d)) => some (.val d)
    | _ => none)
def lcLoop (g : SG) (c : ST) (f : SE) (vs : List Nat) : List D → List D → Env → Option (List D × Env)
  | [], acc, ρ => some (acc, ρ)
  | d :: ds, acc, ρ => (g d ρ).bind fun ρ1 => (c ρ1).bind fun p => if p.1 then (f p.2).bind fun q => (settle q.1 q.2).bind fun w => if acc.length < 16777216 then lcLoop g c f vs ds (acc ++ [w.1]) (wipeE w.2 vs) else none
    else lcLoop g c f vs ds acc (wipeE p.2 vs)
def dLc (src : SI) (g : SG) (c : ST) (f : SE) (vs : List Nat) : SE := fun ρ => (src ρ).bind fun p => (lcLoop g c f vs p.1 [] (wipeE p.2 vs)).bind fun q => some (.new (.own false q.1), restE p.2 vs q.2)
def hYes : ST := fun ρ => some (true, ρ)
structure DTs (X : Cx) (es : List Expr) (f : ST) : Prop where
  pts : PTs X es (tT X.K f)
theorem PTs.imp {X : Cx} {e : List Expr} {t t' : TT} (h : PTs X e t) (w : ∀ σ H Q, t' σ H Q → t σ H Q) : PTs X e t' := ⟨fun pins s σ H Q I q => h.run pins s σ H Q I (w σ H Q q)⟩
theorem dts_nil {X : Cx} : DTs X [] hYes := ⟨PTs.imp pts_nil fun σ H Q h => by
  obtain ⟨m, B, ρ, b, ρ', E, e, k⟩ := h
  cases e
  exact k H B (Grow.refl m B) E⟩
theorem dts_one {X : Cx} {c : Expr} {f : ST} (h : DT X c f) : DTs X [c] f := ⟨pts_one h.pt⟩
section
variable {K : PySem.W.Frag} {m : Fm} {B B' H H' : Hp} {σ σ' : L2.St} {ρ ρ' ρ0 : Env} {v : V} {r : R} {s : Sl} {d : D}
theorem wipeE_len (ρ : Env) : ∀ vs, (wipeE ρ vs).length = ρ.length
  | [] => rfl
  | v :: vs => by unfold wipeE; rw [List.length_set, wipeE_len ρ vs]
theorem wipeE_get {i : Nat} : ∀ {vs : List Nat}, (wipeE ρ vs)[i]? = some (some s) → ρ[i]? = some (some s) ∧ i ∉ vs
  | [], h => ⟨h, by simp⟩
  | v :: vs, h => by
    unfold wipeE at h
    obtain ⟨h1, h2⟩ := getElem?_set_some h
    obtain ⟨h3, h4⟩ := wipeE_get h1
    exact ⟨h3, fun q => by
      rcases List.mem_cons.mp q with q | q
      · exact h2 q
      · exact h4 q⟩
theorem ERep.wiped (E : ERep K m B H σ ρ) (vs : List Nat) : ERep K m B H (wipe σ vs) (wipeE ρ vs) := by
  refine ⟨E.bH, E.fH, by rw [wipeE_len, wipe_length]; exact E.len, fun i s h => ?_, fun i j a hne o1 o2 => ?_⟩
  · obtain ⟨h1, h2⟩ := wipeE_get h
    rw [wipe_out h2]
    exact E.have_ i s h1
  · obtain ⟨s, q, q'⟩ := o1
    obtain ⟨t, w, w'⟩ := o2
    obtain ⟨q1, q2⟩ := wipeE_get q
    obtain ⟨w1, w2⟩ := wipeE_get w
    rw [wipe_out q2, wipe_out w2]
    exact E.apart i j a hne ⟨s, q1, q'⟩ ⟨t, w1, w'⟩
theorem restE_len : ∀ vs, (restE ρ0 vs ρ).length = ρ.length
  | [] => rfl
  | v :: vs => by unfold restE; rw [List.length_set, restE_len vs]
theorem restE_get {i : Nat} : ∀ {vs : List Nat}, (restE ρ0 vs ρ)[i]? = some (some s) → (i ∉ vs ∧ ρ[i]? = some (some s)) ∨ ∃ d, s = .val d ∧ ρ0[i]? = some (some (.val d))
  | [], h => .inl ⟨by simp, h⟩
  | v :: vs, h => by
    unfold restE at h
    by_cases e : v = i
    · subst e
      by_cases hlt : v < (restE ρ0 vs ρ).length
      · rw [List.getElem?_set_self hlt] at h
        split at h
        · rename_i d hd
          cases h
          exact .inr ⟨d, rfl, hd⟩
        · cases h
      · rw [List.getElem?_eq_none (by simpa using hlt)] at h
        cases h
    · rw [List.getElem?_set_ne e] at h
      rcases restE_get h with ⟨h1, h2⟩ | h1
      · exact .inl ⟨fun q => (List.mem_cons.mp q).elim (fun z => e z.symm) h1, h2⟩
      · exact .inr h1
theorem ERep.rested {vs : List Nat} (E0 : ERep K m B' H' σ ρ0) (gB : Same B' B) (E : ERep K m B H (wipe σ vs) ρ) : ERep K m B H σ (restE ρ0 vs ρ) := by
  have get : ∀ {i : Nat} {s : Sl}, (restE ρ0 vs ρ)[i]? = some (some s) → s.mine = true → i ∉ vs ∧ ρ[i]? = some (some s) := fun {i s} h hm => by
    rcases restE_get h with h1 | ⟨d, rfl, h2⟩
    · exact h1
    · cases hm
  refine ⟨E.bH, E.fH, by rw [restE_len]; rw [E.len, wipe_length], fun i s h => ?_, fun i j a hne o1 o2 => ?_⟩
  · rcases restE_get h with ⟨h1, h2⟩ | ⟨d, rfl, h2⟩
    · have := E.have_ i s h2
      rw [wipe_out h1] at this
      exact this
    · obtain ⟨v, e1, e2, _⟩ := E0.have_ i _ h2
      exact ⟨v, e1, Rp.up e2 gB, fun z => by cases z⟩
  · obtain ⟨s, q, q'⟩ := o1
    obtain ⟨t, w, w'⟩ := o2
    obtain ⟨q1, q2⟩ := get q q'
    obtain ⟨w1, w2⟩ := get w w'
    have := E.apart i j a hne ⟨s, q2, q'⟩ ⟨t, w2, w'⟩
    rw [wipe_out q1, wipe_out w1] at this
    exact this
/-- one more object that must stay -/
def Fm.with (m : Fm) (p : Addr) (o : HO) : Fm := ⟨upd m.F p o, m.A⟩
theorem ERep.guard {p : Addr} {o : HO} (E : ERep K m B H σ ρ) (hp : H p = some o) (hn : ∀ i, OwnAt ρ i → σ[i]? ≠ some (some (.ref p))) : ERep K (m.with p o) B H σ ρ := by
  refine ⟨E.bH, fun a x e => ?_, E.len, fun i s h => ?_, E.apart⟩
  · by_cases ea : a = p
    · subst ea
      have e : upd m.F a o a = some x := e
      rw [upd_same] at e
      cases e
      exact hp
    · have e : upd m.F p o a = some x := e
      rw [upd_ne ea] at e
      exact E.fH a x e
  · obtain ⟨v, e1, e2, e3⟩ := E.have_ i s h
    refine ⟨v, e1, ?_, e3⟩
    cases s with
    | val d => exact e2
    | own q ds =>
      obtain ⟨a, xs, rfl, t1, t2, t3, t4⟩ := e2
      have ne : a ≠ p := fun z => hn i ⟨_, h, rfl⟩ (by rw [e1, z])
      exact ⟨a, xs, rfl, t1, by show upd m.F p o a = none; rw [upd_ne ne]; exact t2, t3, t4⟩
    | dic q ds =>
      obtain ⟨a, xs, rfl, t1, t2, t3, t4⟩ := e2
      have ne : a ≠ p := fun z => hn i ⟨_, h, rfl⟩ (by rw [e1, z])
      exact ⟨a, xs, rfl, t1, by show upd m.F p o a = none; rw [upd_ne ne]; exact t2, t3, t4⟩
    | scr ns => exact e2
theorem ERep.unguard {p : Addr} {o : HO} (E : ERep K (m.with p o) B H σ ρ) (hp : m.F p = none) : ERep K m B H σ ρ ∧ H p = some o ∧ ∀ i, OwnAt ρ i → σ[i]? ≠ some (some (.ref p)) := by
  have fr : ∀ {a : Addr}, (m.with p o).F a = none → m.F a = none ∧ a ≠ p := fun {a} z => by
    have z : upd m.F p o a = none := z
    by_cases ea : a = p
    · subst ea
      rw [upd_same] at z
      cases z
    · rw [upd_ne ea] at z
      exact ⟨z, ea⟩
  refine ⟨⟨E.bH, fun a x e => E.fH a x ?_, E.len, fun i s h => ?_, E.apart⟩, E.fH p o upd_same, fun i ⟨s, h, hm⟩ z => ?_⟩
  · show upd m.F p o a = some x
    rw [upd_ne (fun z => by rw [z, hp] at e; cases e)]
    exact e
  · obtain ⟨v, e1, e2, e3⟩ := E.have_ i s h
    refine ⟨v, e1, ?_, e3⟩
    cases s with
    | val d => exact e2
    | own q ds =>
      obtain ⟨a, xs, rfl, t1, t2, t3, t4⟩ := e2
      exact ⟨a, xs, rfl, t1, (fr t2).1, t3, t4⟩
    | dic q ds =>
      obtain ⟨a, xs, rfl, t1, t2, t3, t4⟩ := e2
      exact ⟨a, xs, rfl, t1, (fr t2).1, t3, t4⟩
    | scr ns => exact e2
  · obtain ⟨v, e1, e2, e3⟩ := E.have_ i s h
    rw [z] at e1
    cases e1
    obtain ⟨a, ea, t1, t2, _⟩ := mine_ref hm e2
    cases ea
    exact (fr t2).2 rfl
theorem Grow.unguard {p : Addr} {o : HO} (g : Grow (m.with p o) B B') (hB : B p = none) : Grow m B B' ∧ B' p = none := by
  refine ⟨⟨g.1, fun a h => (g.2 a h).imp id fun z => ?_⟩, ?_⟩
  · have z : upd m.F p o a = none := z
    by_cases ea : a = p
    · subst ea
      rw [upd_same] at z
      cases z
    · rw [upd_ne ea] at z
      exact z
  · cases q : B' p with
    | none => rfl
    | some x =>
      rcases g.2 p (by rw [q]; simp) with w | w
      · exact absurd hB w
      · have w : upd m.F p o p = none := w
        rw [upd_same] at w
        cases w
end
section
variable {X : Cx}
theorem lc_of {K : PySem.W.Frag} {src : SI} {tv : List Nat} {g : SG} {c : ST} {f : SE} {vs : List Nat} (htv : ∀ i ∈ tv, i ∈ vs) : ∀ σ H Q, tD K (dLc src g c f vs) σ H Q → tLc (tI K src) (tG K tv g) (tT K c) (tD K f) vs σ H Q := fun σ H Q h => by
  obtain ⟨m, B, ρ, r0, ρ', E, e, k⟩ := h
  obtain ⟨p, e1, e⟩ := bind_some' e
  obtain ⟨q, e2, e⟩ := bind_some' e
  cases e
  refine ⟨m, B, ρ, p.1, p.2, E, e1, fun J H1 B1 g1 E1 hJ Dl hD => ?_⟩
  have hB1 : B1 Dl = none := none_of_same E1.bH hD
  have hF : m.F Dl = none := none_of_same E1.fH hD
  let W : Nat → Nat → Hp → Prop := fun i n H => n = p.1.length - i ∧ i ≤ p.1.length ∧ ∃ B2 ρi acc xs, Grow m B1 B2 ∧ B2 Dl = none ∧ ERep K m B2 H (wipe σ vs) ρi ∧ H Dl = some (.lst xs) ∧ Rps B2 xs acc ∧ (∀ i, OwnAt ρi i → (wipe σ vs)[i]? ≠ some (some (.ref Dl))) ∧ lcLoop g c f vs (p.1.drop i) acc ρi = some q
  refine ⟨W, ⟨p.1.length - 0, rfl, Nat.zero_le _, B1, wipeE p.2 vs, [], [], Grow.refl m B1, hB1, (E1.laid hD).wiped vs, upd_same, .nil, own_ne_new (E1.wiped vs) hD, e2⟩, fun i n H hW => ?_⟩
  obtain ⟨en, hle, B2, ρi, acc, xs, g2, hB2, E2, hDl, hacc, hno, el⟩ := hW
  by_cases hlt : i < p.1.length
  · have hd : p.1[i]? = some p.1[i] := List.getElem?_eq_getElem hlt
    rw [List.drop_eq_getElem_cons hlt] at el
    unfold lcLoop at el
    obtain ⟨ρ1, el1, el⟩ := bind_some' el
    obtain ⟨w, el2, el⟩ := bind_some' el
    refine .inr ⟨((hJ i H (g2.1.trans E2.bH)).2 _ hd).1, W (i + 1) (p.1.length - (i + 1)), fun H' hN => ⟨p.1.length - (i + 1), by omega, hN⟩, fun x H' hy => ?_⟩
    have E2g := E2.guard hDl hno
    obtain ⟨B3, g3, E3, hr⟩ := yld_ok hJ g2.1 E2g hd hy
    refine ⟨m.with Dl (.lst xs), B3, ρi, p.1[i], ρ1, E3, hr, el1, fun σ2 E4 hw2 => ?_⟩
    have hws : wipe σ2 vs = wipe σ vs := by
      rw [hw2 vs htv]
      have : ∀ us : List Nat, wipe (wipe σ us) us = wipe σ us := by
        have gen : ∀ (us ws : List Nat), (∀ i ∈ us, i ∈ ws) → wipe (wipe σ us) ws = wipe σ ws := by
          intro us
          induction us with
          | nil => intro ws _; rfl
          | cons u us ih =>
            intro ws hsub
            show wipe ((wipe σ us).set u none) ws = _
            rw [wipe_comm _ (hsub u List.mem_cons_self), ih ws fun i hi => hsub i (List.mem_cons_of_mem _ hi)]
        exact fun us => gen us us fun _ h => h
      exact this vs
    refine ⟨hws, ?_⟩
    refine ⟨m.with Dl (.lst xs), B3, ρ1, w.1, w.2, E4, by rw [el2], fun H5 B5 g5 E5 => ?_⟩
    obtain ⟨gg3, hB3⟩ := Grow.unguard g3 hB2
    obtain ⟨gg5, hB5⟩ := Grow.unguard g5 hB3
    cases hw : w.1 with
    | true =>
      rw [hw, if_pos rfl] at el
      rw [if_pos rfl]
      obtain ⟨y, el3, el⟩ := bind_some' el
      obtain ⟨z, el4, el⟩ := bind_some' el
      split at el
      · rename_i hlen
        refine ⟨m.with Dl (.lst xs), B5, w.2, y.1, y.2, E5, el3, fun u H6 B6 g6 E6 R6 => ?_⟩
        obtain ⟨gg6, hB6⟩ := Grow.unguard g6 hB5
        obtain ⟨B7, g7, E7, R7⟩ := settle_ok (d := z.1) (ρ' := z.2) E6 R6 el4
        obtain ⟨gg7, hB7⟩ := Grow.unguard g7 hB6
        obtain ⟨E8, hD8, hn8⟩ := E7.unguard hF
        refine ⟨xs, hD8, line_lt (by rw [hacc.len]; exact hlen), rfl, hlt, B7, wipeE z.2 vs, acc ++ [z.1], xs ++ [u], (((g2.trans gg3).trans gg5).trans gg6).trans gg7, hB7, ?_, upd_same, ?_, ?_, el⟩
        · have E9 := E8.wiped vs
          rw [hws] at E9
          refine E9.keep (Same.refl B7) (fun a o ea => ?_) (fun a o ea => ?_) fun j a o1 o2 => ?_
          · rw [upd_ne (fun z => by rw [z, hB7] at ea; cases ea)]
            exact E9.bH a o ea
          · rw [upd_ne (fun z => by rw [z, hF] at ea; cases ea)]
            exact E9.fH a o ea
          · have hne : a ≠ Dl := fun zz => by
              obtain ⟨t, q1, q2⟩ := o1
              obtain ⟨q3, q4⟩ := wipeE_get q1
              rw [zz, ← hws, wipe_out q4] at o2
              exact hn8 j ⟨t, q3, q2⟩ o2
            exact ⟨(E9.own_ne o1 o2).1, upd_ne hne⟩
        · exact (hacc.up ((((gg3.1.trans gg5.1).trans gg6.1)).trans gg7.1)).app (.cons R7 .nil)
        · intro j ⟨t, q1, q2⟩ o2
          obtain ⟨q3, q4⟩ := wipeE_get q1
          rw [← hws, wipe_out q4] at o2
          exact hn8 j ⟨t, q3, q2⟩ o2
      · cases el
    | false =>
      rw [hw, if_neg Bool.false_ne_true] at el
      rw [if_neg Bool.false_ne_true]
      obtain ⟨E8, hD8, hn8⟩ := E5.unguard hF
      have E9 := E8.wiped vs
      rw [hws] at E9
      refine ⟨rfl, hlt, B5, wipeE w.2 vs, acc, xs, (g2.trans gg3).trans gg5, hB5, E9, hD8, hacc.up (gg3.1.trans gg5.1), ?_, el⟩
      intro j ⟨t, q1, q2⟩ o2
      obtain ⟨q3, q4⟩ := wipeE_get q1
      rw [← hws, wipe_out q4] at o2
      exact hn8 j ⟨t, q3, q2⟩ o2
  · have hge : p.1.length ≤ i := by omega
    rw [List.drop_eq_nil_of_le hge] at el
    cases el
    refine .inl ⟨(hJ i H (g2.1.trans E2.bH)).1 hge, ?_⟩
    have EF := ERep.rested E1 g2.1 E2
    refine k _ H B2 (g1.trans g2) EF ⟨rfl, rfl, ⟨Dl, xs, rfl, hB2, hF, hDl, hacc⟩, fun j ⟨t, q1, q2⟩ o2 => ?_⟩
    rcases restE_get q1 with ⟨h1, h2⟩ | ⟨d, rfl, h2⟩
    · rw [← wipe_out h1] at o2
      exact hno j ⟨t, h2, q2⟩ o2
    · cases q2
theorem de_lc {elt tg iter : Expr} {ifs : List Expr} {scope : Scope} {own : List (Str × Nat)} {pos : Pos} {src : SI} {tv : List Nat} {g : SG} {c : ST} {f : SE} (hc : X.calm = true) (hN : X.N.Nodup) (hi : DI X tg iter src) (ok : BlkOk X.N X.env.scope scope own)
    (hg : ∀ (s : Shared) (H : Hp) (C : Addr) (cl : List (Str × Addr)) (fp : List Addr), DG (X.blk s H scope (compEnvC scope cl C X.env) fp) tg tv g) (ht : ∀ (s : Shared) (H : Hp) (C : Addr) (cl : List (Str × Addr)) (fp : List Addr), DTs (X.blk s H scope (compEnvC scope cl C X.env) fp) ifs c)
    (he : ∀ (s : Shared) (H : Hp) (C : Addr) (cl : List (Str × Addr)) (fp : List Addr), DE (X.blk s H scope (compEnvC scope cl C X.env) fp) elt f) (htv : ∀ i ∈ tv, i ∈ own.map (·.2) := by decide) (hs : ∀ x, foldedSetIterable iter X.env x = pure x := by intro _; rfl) :
    DE X (.ListComp elt [⟨tg, iter, ifs, 0⟩] scope pos) (dLc src g c f (own.map (·.2))) := ⟨PE.imp (pe_lc hc hN hi.pi ok (fun s H C cl fp => (hg s H C cl fp).pg) (fun s H C cl fp => (ht s H C cl fp).pts) (fun s H C cl fp => (he s H C cl fp).pe) hs) (lc_of htv)⟩
end
end DL

namespace DL
open PySem PySem.Spec PyProof.Rows L2

/-! ### several results, each kept as it is -/
def keepS (r : R) (ρ : Env) : Option (Sl × Env) :=
  match r with
  | .val d => some (.val d, ρ)
  | .new s => some (s, ρ)
  | .at i => (settle (.at i) ρ).bind fun w => some (.val w.1, w.2)
abbrev SK := Env → Option (List Sl × Env)
def kNil : SK := fun ρ => some ([], ρ)
def kCons (f : SE) (g : SK) : SK := fun ρ => (f ρ).bind fun p => (keepS p.1 p.2).bind fun w => (g w.2).bind fun q => some (w.1 :: q.1, q.2)
def Held (K : PySem.W.Frag) (m : Fm) (B H : Hp) (σ : L2.St) (ρ : Env) (s : Sl) (v : V) : Prop := (∃ d, s = .val d ∧ Rp B v d) ∨ RRep K m B H σ ρ (.new s) v
def HeldAll (K : PySem.W.Frag) (m : Fm) (B H : Hp) (σ : L2.St) (ρ : Env) : List Sl → List V → Prop
  | [], vs => vs = []
  | s :: ss, vs => ∃ v ws, vs = v :: ws ∧ Held K m B H σ ρ s v ∧ HeldAll K m B H σ ρ ss ws ∧ (s.mine = true → ∀ (k : Nat) (t : Sl), ss[k]? = some t → t.mine = true → ws[k]? ≠ some v)
def tK (K : PySem.W.Frag) (f : SK) : TA := fun σ H Q => ∃ (m : Fm) (B : Hp) (ρ : Env) (ss : List Sl) (ρ' : Env), ERep K m B H σ ρ ∧ f ρ = some (ss, ρ') ∧
  ∀ vs H' B', Grow m B B' → ERep K m B' H' σ ρ' → HeldAll K m B' H' σ ρ' ss vs → Q vs H'
structure DK (X : Cx) (es : List Expr) (f : SK) : Prop where
  pa : PA X es (tK X.K f)
section
variable {K : PySem.W.Frag} {m : Fm} {B B' H H' : Hp} {σ : L2.St} {ρ ρ' : Env} {v : V} {r : R} {s : Sl} {d : D}
theorem keep_ok {s : Sl} (E : ERep K m B H σ ρ) (h : RRep K m B H σ ρ r v) (e : keepS r ρ = some (s, ρ')) : ∃ B', Grow m B B' ∧ ERep K m B' H σ ρ' ∧ Held K m B' H σ ρ' s v := by
  cases r with
  | val d =>
    cases e
    exact ⟨B, Grow.refl m B, E, .inl ⟨d, rfl, h⟩⟩
  | new t =>
    cases e
    exact ⟨B, Grow.refl m B, E, .inr h⟩
  | «at» i =>
    obtain ⟨w, h1, e⟩ := bind_some' e
    cases e
    obtain ⟨B', g, E', hr⟩ := settle_ok (d := w.1) (ρ' := w.2) E h h1
    exact ⟨B', g, E', .inl ⟨_, rfl, hr⟩⟩
theorem srep_unguard {p : Addr} {o : HO} {t : Sl} {w : V} (h : SRep K (m.with p o) B H t w) : SRep K m B H t w ∧ (t.mine = true → w ≠ .ref p) := by
  have fr : ∀ {a : Addr}, (m.with p o).F a = none → m.F a = none ∧ a ≠ p := fun {a} z => by
    have z : upd m.F p o a = none := z
    by_cases ea : a = p
    · subst ea
      rw [upd_same] at z
      cases z
    · rw [upd_ne ea] at z
      exact ⟨z, ea⟩
  cases t with
  | val d => exact ⟨h, fun z => by cases z⟩
  | own q ds =>
    obtain ⟨a, xs, rfl, t1, t2, t3, t4⟩ := h
    exact ⟨⟨a, xs, rfl, t1, (fr t2).1, t3, t4⟩, fun _ z => (fr t2).2 (by cases z; rfl)⟩
  | dic q ds =>
    obtain ⟨a, xs, rfl, t1, t2, t3, t4⟩ := h
    exact ⟨⟨a, xs, rfl, t1, (fr t2).1, t3, t4⟩, fun _ z => (fr t2).2 (by cases z; rfl)⟩
  | scr ns => exact ⟨h, fun z => by cases z⟩
theorem held_unguard {p : Addr} {o : HO} : ∀ {ss : List Sl} {ws : List V}, HeldAll K (m.with p o) B H σ ρ ss ws → HeldAll K m B H σ ρ ss ws ∧ ∀ (k : Nat) (t : Sl), ss[k]? = some t → t.mine = true → ws[k]? ≠ some (.ref p)
  | [], ws, h => ⟨h, fun k t q => by simp at q⟩
  | s :: ss, ws, h => by
    obtain ⟨v, us, rfl, h1, h2, h3⟩ := h
    obtain ⟨i1, i2⟩ := held_unguard h2
    have key : Held K m B H σ ρ s v ∧ (s.mine = true → v ≠ .ref p) := by
      rcases h1 with ⟨d, rfl, hd⟩ | ⟨q1, q2, q3, q4⟩
      · exact ⟨.inl ⟨d, rfl, hd⟩, fun z => by cases z⟩
      · obtain ⟨w1, w2⟩ := srep_unguard q3
        exact ⟨.inr ⟨q1, q2, w1, q4⟩, w2⟩
    refine ⟨⟨v, us, rfl, key.1, i1, h3⟩, fun k t q hm => ?_⟩
    cases k with
    | zero =>
      rw [List.getElem?_cons_zero] at q ⊢
      cases q
      exact fun z => key.2 hm (Option.some.inj z)
    | succ k =>
      rw [List.getElem?_cons_succ] at q ⊢
      exact i2 k t q hm
end
section
variable {X : Cx} {e : Expr} {es : List Expr} {f : SE} {g : SK}
theorem dk_nil : DK X [] kNil := ⟨PA.imp pa_nil fun σ H Q h => by
  obtain ⟨m, B, ρ, rs, ρ', E, e, k⟩ := h
  cases e
  exact k [] H B (Grow.refl m B) E rfl⟩
theorem dk_cons (hf : DE X e f) (hg : DK X es g) (hs : starEach (e :: es) X.env = (false, eval e X.env) :: starEach es X.env := by rfl) : DK X (e :: es) (kCons f g) := ⟨PA.imp (pa_cons hf.pe hg.pa hs) fun σ H Q h => by
  obtain ⟨m, B, ρ, ss, ρ', E, e, k⟩ := h
  obtain ⟨p, h1, e⟩ := bind_some' e
  obtain ⟨w, h2, e⟩ := bind_some' e
  obtain ⟨q, h3, e⟩ := bind_some' e
  cases e
  refine ⟨m, B, ρ, p.1, p.2, E, h1, fun x H1 B1 g1 E1 R1 => ?_⟩
  obtain ⟨B2, g2, E2, hh⟩ := keep_ok (s := w.1) (ρ' := w.2) E1 R1 h2
  rcases hh with ⟨d, hd, hr⟩ | hnew
  · refine ⟨m, B2, w.2, q.1, q.2, E2, h3, fun vs H3 B3 g3 E3 R3 => ?_⟩
    exact k (x :: vs) H3 B3 ((g1.trans g2).trans g3) E3 ⟨x, vs, rfl, .inl ⟨d, hd, hr.up g3.1⟩, R3, fun hm => by rw [hd] at hm; cases hm⟩
  · obtain ⟨n1, n2, n3, n4⟩ := hnew
    -- the thing just made is guarded
    obtain ⟨a, rfl, z1, z2, z3⟩ := mine_ref n1 n3
    obtain ⟨o, ho⟩ : ∃ o, H1 a = some o := by
      cases q : H1 a with
      | none => exact absurd q z3
      | some o => exact ⟨o, rfl⟩
    have E2g := E2.guard ho n4
    refine ⟨m.with a o, B2, w.2, q.1, q.2, E2g, h3, fun vs H3 B3 g3 E3 R3 => ?_⟩
    obtain ⟨gg3, hB3⟩ := Grow.unguard g3 z1
    obtain ⟨E4, hH3, hn3⟩ := E3.unguard z2
    obtain ⟨R4, hd⟩ := held_unguard R3
    refine k (.ref a :: vs) H3 B3 ((g1.trans g2).trans gg3) E4 ⟨.ref a, vs, rfl, .inr ⟨n1, n2, ?_, hn3⟩, R4, fun _ j t ht hm => hd j t ht hm⟩
    exact n3.keep gg3.1 fun b eb _ => by
      cases eb
      exact ⟨hB3, hH3.trans ho.symm⟩⟩
end
/-- one more slot set, what is held besides stays held -/
theorem held_set {K : PySem.W.Frag} {m : Fm} {B H : Hp} {σ : L2.St} {ρ : Env} {i : Nat} {s : Sl} {v : V} (E : ERep K m B H σ ρ) (h : Held K m B H σ ρ s v) : ERep K m B H (σ.set i (some v)) (ρ.set i (some s)) ∧
    ∀ {ss : List Sl} {ws : List V}, HeldAll K m B H σ ρ ss ws → (s.mine = true → ∀ (k : Nat) (t : Sl), ss[k]? = some t → t.mine = true → ws[k]? ≠ some v) → HeldAll K m B H (σ.set i (some v)) (ρ.set i (some s)) ss ws := by
  refine ⟨?_, ?_⟩
  · rcases h with ⟨d, rfl, hr⟩ | ⟨n1, n2, n3, n4⟩
    · exact E.setVal hr
    · exact E.setNew n1 n2 n3 n4
  · intro ss
    induction ss with
    | nil => intro ws hw _; exact hw
    | cons t ss ih =>
      intro ws hw hne
      obtain ⟨w, us, rfl, h1, h2, h3⟩ := hw
      refine ⟨w, us, rfl, ?_, ih h2 fun hm k t' ht hm' => by
        have := hne hm (k + 1) t' (by rw [List.getElem?_cons_succ]; exact ht) hm'
        rw [List.getElem?_cons_succ] at this
        exact this, h3⟩
      rcases h1 with ⟨d, rfl, hr⟩ | ⟨n1, n2, n3, n4⟩
      · exact .inl ⟨d, rfl, hr⟩
      · refine .inr ⟨n1, n2, n3, fun j ⟨t', q1, q2⟩ z => ?_⟩
        by_cases e : i = j
        · subst e
          by_cases hlt : i < ρ.length
          · rw [List.getElem?_set_self hlt] at q1
            cases q1
            rw [List.getElem?_set_self (by rw [← E.len]; exact hlt)] at z
            cases z
            exact hne q2 0 t (by rw [List.getElem?_cons_zero]) n1 (by rw [List.getElem?_cons_zero])
          · rw [List.getElem?_eq_none (by simpa using hlt)] at q1
            cases q1
        · rw [List.getElem?_set_ne e] at q1 z
          exact n4 j ⟨t', q1, q2⟩ z
def dPar2 (i j : Nat) (f : SK) : SS := fun ρ => (f ρ).bind fun p => match p.1 with
  | [s, t] => some (.nx, (p.2.set i (some s)).set j (some t))
  | _ => none
def dPar3 (i j l : Nat) (f : SK) : SS := fun ρ => (f ρ).bind fun p => match p.1 with
  | [s, t, u] => some (.nx, ((p.2.set i (some s)).set j (some t)).set l (some u))
  | _ => none
section
variable {X : Cx} {i j l : Nat} {x y z : Str} {a b c : Expr} {f : SK} {px py pz pt pos : Pos} {kt k2 pt2}
theorem ds_par2 (hc : X.calm = true) (hN : X.N.Nodup) (ha : DK X [a, b] f) (hi : X.N[i]? = some x := by rfl) (hj : X.N[j]? = some y := by rfl) (hij : i ≠ j := by decide)
    (hx : X.env.scope.names.lookup x = some .local := by rfl) (hy : X.env.scope.names.lookup y = some .local := by rfl)
    (hw : swappedStores [.Tuple [.Name x px, .Name y py] kt pt] (.Tuple [a, b] k2 pt2) X.env = pure (some [x, y]) := by rfl)
    (hs : swapsWithSole [.Tuple [.Name x px, .Name y py] kt pt] (.Tuple [a, b] k2 pt2) pos.line X.env = pure false := by rfl) :
    DS X (.Assign [.Tuple [.Name x px, .Name y py] kt pt] (.Tuple [a, b] k2 pt2) pos) (dPar2 i j f) := ⟨PS.imp (ps_par hc hN hi hj hij hx hy ha.pa hw hs) fun D σ H q => by
  obtain ⟨m, B, ρ, fl, ρ', E, e, k⟩ := q
  obtain ⟨p, e1, e⟩ := bind_some' e
  split at e
  · rename_i s t hp
    cases e
    refine ⟨m, B, ρ, p.1, p.2, E, e1, fun vs H1 B1 g1 E1 R1 => ?_⟩
    rw [hp] at R1
    obtain ⟨v, ws, rfl, h1, h2, h3⟩ := R1
    obtain ⟨E2, k2⟩ := held_set (i := i) E1 h1
    obtain ⟨w, us, rfl, h4, h5, h6⟩ := k2 h2 h3
    obtain ⟨E3, _⟩ := held_set (i := j) E2 h4
    have h5 : us = [] := h5
    exact ⟨v, w, by rw [h5], k _ H1 B1 g1 E3⟩
  · cases e⟩
theorem ds_par3 (hc : X.calm = true) (hN : X.N.Nodup) (ha : DK X [a, b, c] f) (hi : X.N[i]? = some x := by rfl) (hj : X.N[j]? = some y := by rfl) (hl : X.N[l]? = some z := by rfl) (hij : i ≠ j := by decide) (hil : i ≠ l := by decide) (hjl : j ≠ l := by decide)
    (hx : X.env.scope.names.lookup x = some .local := by rfl) (hy : X.env.scope.names.lookup y = some .local := by rfl) (hz : X.env.scope.names.lookup z = some .local := by rfl)
    (hw : swappedStores [.Tuple [.Name x px, .Name y py, .Name z pz] kt pt] (.Tuple [a, b, c] k2 pt2) X.env = pure (some [x, y, z]) := by rfl)
    (hs : swapsWithSole [.Tuple [.Name x px, .Name y py, .Name z pz] kt pt] (.Tuple [a, b, c] k2 pt2) pos.line X.env = pure false := by rfl) :
    DS X (.Assign [.Tuple [.Name x px, .Name y py, .Name z pz] kt pt] (.Tuple [a, b, c] k2 pt2) pos) (dPar3 i j l f) := ⟨PS.imp (ps_par3 hc hN hi hj hl hij hil hjl hx hy hz ha.pa hw hs) fun D σ H q => by
  obtain ⟨m, B, ρ, fl, ρ', E, e, k⟩ := q
  obtain ⟨p, e1, e⟩ := bind_some' e
  split at e
  · rename_i s t u hp
    cases e
    refine ⟨m, B, ρ, p.1, p.2, E, e1, fun vs H1 B1 g1 E1 R1 => ?_⟩
    rw [hp] at R1
    obtain ⟨v, ws, rfl, h1, h2, h3⟩ := R1
    obtain ⟨E2, k2⟩ := held_set (i := i) E1 h1
    obtain ⟨w, us, rfl, h4, h5, h6⟩ := k2 h2 h3
    obtain ⟨E3, k3⟩ := held_set (i := j) E2 h4
    obtain ⟨w3, us3, rfl, h7, h8, h9⟩ := k3 h5 h6
    obtain ⟨E4, _⟩ := held_set (i := l) E3 h7
    have h8 : us3 = [] := h8
    exact ⟨v, w, w3, by rw [h8], k _ H1 B1 g1 E4⟩
  · cases e⟩
/-- y = [.. for ..], y a plain local name -/
theorem ds_lc {y : Str} {py spos : Pos} {elt tg iter : Expr} {ifs : List Expr} {scope : Scope} {own : List (Str × Nat)} {src : SI} {tv : List Nat} {g : SG} {c : ST} {f : SE} (hc : X.calm = true) (hN : X.N.Nodup) (hi : DI X tg iter src) (ok : BlkOk X.N X.env.scope scope own)
    (hg : ∀ (s : Shared) (H : Hp) (C : Addr) (cl : List (Str × Addr)) (fp : List Addr), DG (X.blk s H scope (compEnvC scope cl C X.env) fp) tg tv g) (ht : ∀ (s : Shared) (H : Hp) (C : Addr) (cl : List (Str × Addr)) (fp : List Addr), DTs (X.blk s H scope (compEnvC scope cl C X.env) fp) ifs c)
    (he : ∀ (s : Shared) (H : Hp) (C : Addr) (cl : List (Str × Addr)) (fp : List Addr), DE (X.blk s H scope (compEnvC scope cl C X.env) fp) elt f) (hy : X.N[i]? = some y := by rfl) (hyl : X.env.scope.names.lookup y = some .local := by rfl)
    (hsw : swapsWith (.ListComp elt [⟨tg, iter, ifs, 0⟩] scope pos) (some (.Name y py)) spos.line X.env = pure true := by exact sw_true rfl rfl rfl (by decide +kernel)) (htv : ∀ i ∈ tv, i ∈ own.map (·.2) := by decide) (hs : ∀ x, foldedSetIterable iter X.env x = pure x := by intro _; rfl) :
    DS X (.Assign [.Name y py] (.ListComp elt [⟨tg, iter, ifs, 0⟩] scope pos) spos) (dAsg i (dLc src g c f (own.map (·.2)))) := ⟨PS.imp (ps_setLc hc hN hy hyl hsw hi.pi ok (fun s H C cl fp => (hg s H C cl fp).pg) (fun s H C cl fp => (ht s H C cl fp).pts) (fun s H C cl fp => (he s H C cl fp).pe) hs) fun D σ H q => by
  obtain ⟨m, B, ρ, fl, ρ', E, e, k⟩ := q
  obtain ⟨p, e1, e⟩ := bind_some' e
  obtain ⟨ρ1, e2, e⟩ := bind_some' e
  cases e
  refine lc_of htv σ H _ ⟨m, B, ρ, p.1, p.2, E, e1, fun v H1 B1 g1 E1 R1 => ?_⟩
  obtain ⟨B2, g2, E2⟩ := store_ok' E1 R1 e2
  exact k _ H1 B2 (g1.trans g2) E2⟩
end

/-! ### sorted -/
/-- insertion: the sorted list -/
def insI (x : Int) : List Int → List Int
  | [] => [x]
  | y :: r => if x ≤ y then x :: y :: r else y :: insI x r
def sortI : List Int → List Int
  | [] => []
  | x :: r => insI x (sortI r)
theorem insI_perm (x : Int) : ∀ l, (insI x l).Perm (x :: l)
  | [] => List.Perm.refl _
  | y :: r => by
    unfold insI
    split
    · exact List.Perm.refl _
    · exact ((insI_perm x r).cons y).trans (List.Perm.swap x y r)
theorem insI_sorted (x : Int) : ∀ {l : List Int}, l.Pairwise (· ≤ ·) → (insI x l).Pairwise (· ≤ ·)
  | [], _ => List.pairwise_singleton _ _
  | y :: r, h => by
    unfold insI
    obtain ⟨h1, h2⟩ := List.pairwise_cons.mp h
    split
    · rename_i hxy
      exact List.pairwise_cons.mpr ⟨fun z hz => by
        rcases List.mem_cons.mp hz with rfl | hz
        · exact hxy
        · have := h1 z hz; omega, h⟩
    · rename_i hxy
      refine List.pairwise_cons.mpr ⟨fun z hz => ?_, insI_sorted x h2⟩
      rcases List.mem_cons.mp ((insI_perm x r).mem_iff.mp hz) with rfl | hz
      · omega
      · exact h1 z hz
theorem sortI_perm : ∀ l, (sortI l).Perm l
  | [] => List.Perm.refl _
  | x :: r => (insI_perm x _).trans ((sortI_perm r).cons x)
theorem sortI_sorted : ∀ l, (sortI l).Pairwise (· ≤ ·)
  | [] => List.Pairwise.nil
  | x :: r => insI_sorted x (sortI_sorted r)
theorem sorted_uniqI : ∀ {a b : List Int}, a.Perm b → a.Pairwise (· ≤ ·) → b.Pairwise (· ≤ ·) → a = b
  | [], b, h, _, _ => (List.nil_perm.mp h).symm ▸ rfl
  | x :: a, [], h, _, _ => by have := h.length_eq; simp at this
  | x :: a, y :: b, h, h1, h2 => by
    obtain ⟨p1, p2⟩ := List.pairwise_cons.mp h1
    obtain ⟨q1, q2⟩ := List.pairwise_cons.mp h2
    have e : x = y := by
      have m1 : x ∈ y :: b := h.mem_iff.mp List.mem_cons_self
      have m2 : y ∈ x :: a := h.mem_iff.mpr List.mem_cons_self
      rcases List.mem_cons.mp m1 with e | m1
      · exact e
      · rcases List.mem_cons.mp m2 with e | m2
        · exact e.symm
        · have := q1 x m1
          have := p1 y m2
          omega
    subst e
    rw [sorted_uniqI h.cons_inv p2 q2]
theorem sortI_uniq {a l : List Int} (h : a.Perm l) (h1 : a.Pairwise (· ≤ ·)) : a = sortI l := sorted_uniqI (h.trans (sortI_perm l).symm) h1 (sortI_sorted l)
/-- pairs of ints -/
def leP (p q : Int × Int) : Bool := !SrtO.lexB q p
def insP (x : Int × Int) : List (Int × Int) → List (Int × Int)
  | [] => [x]
  | y :: r => if leP x y then x :: y :: r else y :: insP x r
def sortP : List (Int × Int) → List (Int × Int)
  | [] => []
  | x :: r => insP x (sortP r)
theorem leP_iff {p q : Int × Int} : leP p q = true ↔ p.1 < q.1 ∨ (p.1 = q.1 ∧ p.2 ≤ q.2) := by
  unfold leP
  rw [Bool.not_eq_true', SrtO.lexB_no]
  omega
theorem leP_total {p q : Int × Int} (h : ¬ leP p q = true) : leP q p = true := by
  rw [leP_iff] at h ⊢
  omega
theorem leP_trans {p q r : Int × Int} (h : leP p q = true) (h' : leP q r = true) : leP p r = true := by
  rw [leP_iff] at h h' ⊢
  omega
theorem leP_anti {p q : Int × Int} (h : leP p q = true) (h' : leP q p = true) : p = q := by
  rw [leP_iff] at h h'
  have h1 : p.1 = q.1 := by omega
  have h2 : p.2 = q.2 := by omega
  cases p
  cases q
  cases h1
  cases h2
  rfl
abbrev SortedP (l : List (Int × Int)) : Prop := l.Pairwise fun p q => leP p q = true
theorem insP_perm (x : Int × Int) : ∀ l, (insP x l).Perm (x :: l)
  | [] => List.Perm.refl _
  | y :: r => by
    unfold insP
    split
    · exact List.Perm.refl _
    · exact ((insP_perm x r).cons y).trans (List.Perm.swap x y r)
theorem insP_sorted (x : Int × Int) : ∀ {l : List (Int × Int)}, SortedP l → SortedP (insP x l)
  | [], _ => List.pairwise_singleton _ _
  | y :: r, h => by
    unfold insP
    obtain ⟨h1, h2⟩ := List.pairwise_cons.mp h
    split
    · rename_i hxy
      exact List.pairwise_cons.mpr ⟨fun z hz => by
        rcases List.mem_cons.mp hz with rfl | hz
        · exact hxy
        · exact leP_trans hxy (h1 z hz), h⟩
    · rename_i hxy
      refine List.pairwise_cons.mpr ⟨fun z hz => ?_, insP_sorted x h2⟩
      rcases List.mem_cons.mp ((insP_perm x r).mem_iff.mp hz) with rfl | hz
      · exact leP_total hxy
      · exact h1 z hz
theorem sortP_perm : ∀ l, (sortP l).Perm l
  | [] => List.Perm.refl _
  | x :: r => (insP_perm x _).trans ((sortP_perm r).cons x)
theorem sortP_sorted : ∀ l, SortedP (sortP l)
  | [] => List.Pairwise.nil
  | x :: r => insP_sorted x (sortP_sorted r)
theorem sorted_uniqP : ∀ {a b : List (Int × Int)}, a.Perm b → SortedP a → SortedP b → a = b
  | [], b, h, _, _ => (List.nil_perm.mp h).symm ▸ rfl
  | x :: a, [], h, _, _ => by have := h.length_eq; simp at this
  | x :: a, y :: b, h, h1, h2 => by
    obtain ⟨p1, p2⟩ := List.pairwise_cons.mp h1
    obtain ⟨q1, q2⟩ := List.pairwise_cons.mp h2
    have e : x = y := by
      have m1 : x ∈ y :: b := h.mem_iff.mp List.mem_cons_self
      have m2 : y ∈ x :: a := h.mem_iff.mpr List.mem_cons_self
      rcases List.mem_cons.mp m1 with e | m1
      · exact e
      · rcases List.mem_cons.mp m2 with e | m2
        · exact e.symm
        · exact leP_anti (p1 y m2) (q1 x m1)
    subst e
    rw [sorted_uniqP h.cons_inv p2 q2]
theorem sortP_uniq {a l : List (Int × Int)} (h : a.Perm l) (h1 : SortedP a) : a = sortP l := sorted_uniqP (h.trans (sortP_perm l).symm) h1 (sortP_sorted l)
/-- pairs as data -/
def prD (p : Int × Int) : D := .tuple [.int p.1, .int p.2]
def prsD : List D → Option (List (Int × Int))
  | [] => some []
  | .tuple [.int i, .int j] :: r => (prsD r).bind fun is => some ((i, j) :: is)
  | _ :: _ => none
theorem prsD_inv : ∀ {ds : List D} {is : List (Int × Int)}, prsD ds = some is → ds = is.map prD
  | [], is, h => by cases h; rfl
  | d :: r, is, h => by
    unfold prsD at h
    split at h
    · rename_i h0; cases h0
    · rename_i i j r' h0
      cases h0
      obtain ⟨js, h1, h⟩ := bind_some' h
      cases h
      rw [prsD_inv h1]
      rfl
    · cases h
theorem prsD_map : ∀ is : List (Int × Int), prsD (is.map prD) = some is
  | [] => rfl
  | i :: is => by
    show (prsD (is.map prD)).bind _ = _
    rw [prsD_map is]
    rfl
/-- which pair stands at a tracked tuple -/
def keyP (H : Hp) : V → Int × Int
  | .ref a => match H a with
    | some (.tup [.int i, .int j]) => (i, j)
    | _ => (0, 0)
  | _ => (0, 0)
theorem keyP_of {B H : Hp} {v : V} {p : Int × Int} (e : Same B H) (h : Rp B v (prD p)) : keyP H v = p ∧ ∃ t, v = .ref t ∧ H t = some (.tup [.int p.1, .int p.2]) := by
  unfold prD at h
  cases h with
  | tup h1 h2 =>
    cases h2 with
    | cons r1 t1 =>
      cases t1 with
      | cons r2 t2 =>
        cases t2
        cases r1
        cases r2
        have := e _ _ h1
        refine ⟨?_, _, rfl, this⟩
        unfold keyP
        dsimp only
        rw [this]
theorem keyP_all {B H : Hp} (e : Same B H) : ∀ {vs : List V} {ps : List (Int × Int)}, Rps B vs (ps.map prD) → vs.map (keyP H) = ps ∧ (∀ v ∈ vs, Rp B v (prD (keyP H v)) ∧ ∃ t, v = .ref t ∧ H t = some (.tup [.int (keyP H v).1, .int (keyP H v).2]))
  | _, [], h => by cases h; exact ⟨rfl, fun v hv => by cases hv⟩
  | _, p :: ps, h => by
    rw [List.map_cons] at h
    cases h with
    | cons r t =>
      obtain ⟨i1, i2⟩ := keyP_all e t
      obtain ⟨k1, k2⟩ := keyP_of e r
      refine ⟨by rw [List.map_cons, k1, i1], fun v hv => ?_⟩
      rcases List.mem_cons.mp hv with rfl | hv
      · rw [k1]
        exact ⟨r, k2⟩
      · exact i2 v hv
theorem rps_of_all {B : Hp} {k : V → Int × Int} : ∀ {vs : List V}, (∀ v ∈ vs, Rp B v (prD (k v))) → Rps B vs ((vs.map k).map prD)
  | [], _ => .nil
  | v :: vs, h => .cons (h v List.mem_cons_self) (rps_of_all fun w hw => h w (List.mem_cons_of_mem _ hw))
/-- the keys of a dict of ints -/
def keysI : List (D × D) → Option (List Int)
  | [] => some []
  | (.int i, _) :: r => (keysI r).bind fun is => some (i :: is)
  | _ :: _ => none
def gSorted : List D → Option ORes
  | [.list ds] => match intsD ds with
    | some is => some (.ls ((sortI is).map PyData.int))
    | none => (prsD ds).bind fun ps => some (.ls ((sortP ps).map prD))
  | [.dict kvs] => (keysI kvs).bind fun is => some (.ls ((sortI is).map PyData.int))
  | _ => none
def rSortedDI' : List V → Hp → VK → Prop := fun xs H Q => ∃ (a : Addr) (kvs : List (Key × V)) (ks : List Int), xs = [.ref a] ∧ Rd H a (.dK kvs) ∧ kvs.map (·.1) = ks.map Sum.inl ∧
    ∀ (ys : List Int) (p : Addr), ys.Perm ks → ys.Pairwise (· ≤ ·) → H p = none → Q (.ref p) (upd H p (.lst (ys.map V.int)))
theorem call_sortedD' {X : Cx} (hcalm : X.calm = true) : CallR X (.builtin "sorted") rSortedDI' := by
  intro pins s σ H xs us Q I r q
  obtain ⟨a, kvs, ks, ex, hd, hks, q⟩ := q
  subst ex
  obtain ⟨u, eu, rx⟩ := vals1 r
  subst eu
  cases rx
  obtain ⟨z, lo, vs, rel, dd⟩ := dk_rd I.hok hd
  obtain ⟨ep, hat⟩ := dd.dictAt
  have hkeys : vs.map (·.1) = ks.map Sum.inl := rel.keys.symm.trans hks
  have hl : vs.length = ks.length := by
    have e := congrArg List.length hkeys
    rw [List.length_map, List.length_map] at e
    exact e
  have h16 : vs.length ≤ sizeLine := by rw [← rel.length]; exact z
  refine Calls.call_function_entry PyProof.Rows.kind_sorted PyProof.Rows.plain_sorted PyProof.Rows.entry_sorted (PyProof.Rows.args_sorted1 _) ?_
  unfold Builtin.«sorted»
  refine wpAny_bind (m := checkCount "sorted" 1 1 _) (wpAny_pure ?_)
  refine wpAny_bind (PySem.W.kdu_collect (A := X.A.in1) (PySem.W.kdl_dict (knd := mixKind X.prog X.w) (kvs := vs) (ep := ep) lo) (I.ok.hd hcalm) hat h16 fun h' tk acc hk hacc => ?_)
  have hal : acc.toList.length = ks.length := by rw [Array.length_toList, hacc.1, hl]
  have hS : IntsAre acc.toList ks := ints_each hal fun j v e => by
    obtain ⟨k, x, e1, e2⟩ := hacc.2 j v (by rw [← Array.getElem?_toList]; exact e)
    have e3 : (vs.map (·.1))[j]? = some k := by rw [List.getElem?_map, e1]; rfl
    rw [hkeys, List.getElem?_map] at e3
    cases e4 : ks[j]? with
    | none => rw [e4] at e3; cases e3
    | some y =>
      rw [e4] at e3
      have e5 : Sum.inl y = k := Option.some.inj e3
      subst e5
      rcases keyIs_shape (show keyIs (Sum.inl y) v = true from e2) with ⟨i, t, ek, ev⟩ | ⟨z, t, ek, ev⟩
      · cases ek
        exact ⟨y, t, rfl, ev⟩
      · cases ek
  have I1 : Inv X pins σ H { s with heap := h', toks := tk } := I.kept hk
  have hz' : acc.toList.length ≤ sizeLine := by rw [hal, ← hl]; exact h16
  refine wpAny_bind (wpAny_newList ?_ hz')
  have hoL : (h'.push (seqObj "list" acc.toList.toArray 0)).get? h'.objs.size = some (seqObj "list" acc.toList.toArray 0) := Heap.get?_push_size _ rfl
  show wpAny _ _ _ _ _ { s with heap := h'.push (seqObj "list" acc.toList.toArray 0), toks := tk }
  refine wpAny_bind (wpAny_holding (wpAny_call_entry PyProof.Rows.slot_list_sort ⟨_, hoL, rfl⟩ PyProof.Rows.entry_list_sort
    (SrtO.list_sort_ord (s := { s with heap := h'.push (seqObj "list" acc.toList.toArray 0), toks := tk }) SrtO.swo_int hoL hz' (fun h2 => SrtO.ints_sortable hS h2) fun out g1 g2 => ⟨_, rfl, ?_⟩) (PyProof.Rows.args_list_sort _)))
  obtain ⟨k1, k2, k3⟩ := SrtO.ints_out hS g1 g2
  obtain ⟨e', he'⟩ := PyProof.Rows.sortedHeap_at (vs := acc.toList) (out := out.toArray) hoL
  have hlen : ((out.map SrtO.iv).map V.int).length ≤ sizeLine := by
    rw [List.length_map, k2.length_eq, ← hl]
    exact h16
  refine wpAny_pure ⟨_, rfl, .ref h'.objs.size, upd H h'.objs.size (.lst ((out.map SrtO.iv).map V.int)), I1.laid (t' := tk) (fun b u e => ?_) (Nat.le_refl _)
    (show ObjOk X.prog X.w _ _ _ (.lst ((out.map SrtO.iv).map V.int)) from ⟨hlen, out, e', vals_of_ints k1, he'⟩), rfl, q _ _ k2 k3 (I1.hok.fresh (Nat.le_refl _))⟩
  have hb : b < h'.objs.size := Heap.lt_size e
  rw [PyProof.Rows.sortedHeap_old (Nat.ne_of_lt hb) (by rw [size_push']; exact Nat.lt_succ_of_lt hb)]
  exact Heap.get?_push_of_some _ e
def rSortedA (K : PySem.W.Frag) : List V → Hp → VK → Prop := fun vs H Q => rSortedI K vs H Q ∨ (fun vs H Q => rSortedPO K vs H Q ∨ rSortedDI' vs H Q) vs H Q
theorem call_sortedA {X : Cx} (hc : X.calm = true) : CallR X (.builtin "sorted") (rSortedA X.K) := CallR.or cr_sortedI (CallR.or cr_sortedPO (call_sortedD' hc))
theorem keysI_inv {B : Hp} : ∀ {vs : List (Key × V)} {kvs : List (D × D)} {is : List Int}, Paired (fun (p : Key × V) (q : D × D) => kD p.1 = q.1 ∧ Rp B p.2 q.2) vs kvs → keysI kvs = some is → vs.map (·.1) = is.map Sum.inl
  | _, _, is, .nil, h => by cases h; rfl
  | (k, v) :: vs, (a, b) :: kvs, is, .cons r t, h => by
    unfold keysI at h
    split at h
    · rename_i h0; cases h0
    · rename_i i x r' h0
      cases h0
      obtain ⟨js, h1, h⟩ := bind_some' h
      cases h
      have hk : kD k = .int i := r.1
      have : k = Sum.inl i := by
        cases k with
        | inl j => cases hk; rfl
        | inr x => cases hk
      rw [List.map_cons, List.map_cons, keysI_inv t h1, this]
    · cases h
theorem ok_sorted {K : PySem.W.Frag} : CallOk (rSortedA K) gSorted := fun B H vs ds o Q e hv hg hp => by
  unfold gSorted at hg
  split at hg
  · rename_i es
    obtain ⟨v, rfl, a, xs, rfl, h2, h3⟩ := vws1 hv
    split at hg
    · rename_i is h1
      cases hg
      rw [intsD_inv h1] at h3
      rw [h3.ints] at h2
      refine .inl ⟨a, is, rfl, SqL.of h2, fun ns' p q1 q2 hp' => ?_⟩
      rw [sortI_uniq q1 q2]
      exact hp p _ hp' (Rps.ofInts _)
    · obtain ⟨ps, h1, hg⟩ := bind_some' hg
      cases hg
      rw [prsD_inv h1] at h3
      obtain ⟨k1, k2⟩ := keyP_all e h3
      refine .inr (.inl ⟨a, xs, keyP H, rfl, SqL.of h2, fun x hx => (k2 x hx).2, fun ys p q1 q2 hp' => hp p ys hp' ?_⟩)
      have hperm : (ys.map (keyP H)).Perm ps := by
        have := q2.perm.map (keyP H)
        rw [k1] at this
        exact this
      have hs : SortedP (ys.map (keyP H)) := List.pairwise_map.mpr (q1.imp fun {x y} h => by
        show leP (keyP H x) (keyP H y) = true
        unfold leP
        have h : SrtO.lexB (keyP H y) (keyP H x) = false := h
        rw [h]
        rfl)
      rw [← sortP_uniq hperm hs]
      exact rps_of_all fun v hv => (k2 v (q2.perm.mem_iff.mp hv)).1
  · obtain ⟨is, h1, hg⟩ := bind_some' hg
    cases hg
    obtain ⟨v, rfl, a, xs, rfl, h2, h3⟩ := vws1 hv
    refine .inr (.inr ⟨a, xs, is, rfl, .inl h2, keysI_inv h3 h1, fun ys p q1 q2 hp' => ?_⟩)
    rw [sortI_uniq q1 q2]
    exact hp p _ hp' (Rps.ofInts _)
  · cases hg

/-! ### dict(pairs) -/
def keyOf : D → Option Key
  | .int i => some (.inl i)
  | .str x => some (.inr x)
  | _ => none
def putKD (kvs : List (Key × D)) (k : Key) (v : D) : List (Key × D) :=
  if (kvs.any fun kv => decide (kv.1 = k)) = true then kvs.map (fun kv => if kv.1 = k then (kv.1, v) else kv) else kvs ++ [(k, v)]
def mergeKD (kvs more : List (Key × D)) : List (Key × D) := more.foldl (fun acc kv => putKD acc kv.1 kv.2) kvs
def pairsD : List D → Option (List (Key × D))
  | [] => some []
  | .tuple [k, v] :: r => (keyOf k).bind fun kk => (pairsD r).bind fun is => some ((kk, v) :: is)
  | _ :: _ => none
def gDict : List D → Option ORes
  | [.list ds] => (pairsD ds).bind fun kvs => some (.dc (mergeKD [] kvs))
  | _ => none
theorem kvr_put {B : Hp} {vs : List (Key × V)} {kvs : List (Key × D)} (h : KvR B vs kvs) (k : Key) {v : V} {d : D} (r : Rp B v d) : KvR B (putK vs k v) (putKD kvs k d) := by
  have hany : (vs.any fun kv => decide (kv.1 = k)) = (kvs.any fun kv => decide (kv.1 = k)) := by
    induction h with
    | nil => rfl
    | cons a t ih => rw [List.any_cons, List.any_cons, ih, a.1]
  unfold putK putKD
  rw [hany]
  split
  · induction h with
    | nil => exact .nil
    | @cons a b as bs q t ih =>
      rw [List.map_cons, List.map_cons]
      refine .cons ?_ (by
        have gen : ∀ {vs : List (Key × V)} {kvs : List (Key × D)}, KvR B vs kvs → KvR B (vs.map fun kv => if kv.1 = k then (kv.1, v) else kv) (kvs.map fun kv => if kv.1 = k then (kv.1, d) else kv) := by
          intro vs kvs h
          induction h with
          | nil => exact .nil
          | cons q t ih =>
            rw [List.map_cons, List.map_cons]
            refine .cons ?_ ih
            rw [q.1]
            split
            · exact ⟨rfl, r⟩
            · exact ⟨q.1, q.2⟩
        exact gen t)
      rw [q.1]
      split
      · exact ⟨rfl, r⟩
      · exact ⟨q.1, q.2⟩
  · have gen : ∀ {vs : List (Key × V)} {kvs : List (Key × D)}, KvR B vs kvs → KvR B (vs ++ [(k, v)]) (kvs ++ [(k, d)]) := by
      intro vs kvs h
      induction h with
      | nil => exact .cons ⟨rfl, r⟩ .nil
      | cons q t ih => exact .cons q ih
    exact gen h
theorem kvr_merge {B : Hp} : ∀ {more : List (Key × V)} {moreD : List (Key × D)} {vs : List (Key × V)} {kvs : List (Key × D)}, KvR B more moreD → KvR B vs kvs → KvR B (mergeK vs more) (mergeKD kvs moreD)
  | _, _, _, _, .nil, h => h
  | (k, v) :: more, (k', d) :: moreD, vs, kvs, .cons r t, h => by
    show KvR B (mergeK (putK vs k v) more) (mergeKD (putKD kvs k' d) moreD)
    have e : k = k' := r.1
    subst e
    exact kvr_merge t (kvr_put h k r.2)
theorem pairsD_rps {K : PySem.W.Frag} {B H : Hp} (e : Same B H) : ∀ {vs : List V} {ds : List D} {kvs : List (Key × D)}, Rps B vs ds → pairsD ds = some kvs →
    ∃ (ps : List Addr) (kvs' : List (Key × V)), vs = ps.map V.ref ∧ Paired (fun p kv => SqT K H p [kV kv.1, kv.2]) ps kvs' ∧ KvR B kvs' kvs
  | [], _, kvs, .nil, h => by cases h; exact ⟨[], [], rfl, .nil, .nil⟩
  | v :: vs, d :: ds, kvs, .cons r t, h => by
    unfold pairsD at h
    split at h
    · rename_i h0; cases h0
    · rename_i kd vd r' h0
      cases h0
      obtain ⟨kk, h1, h⟩ := bind_some' h
      obtain ⟨is, h2, h⟩ := bind_some' h
      cases h
      obtain ⟨ps, kvs', e1, e2, e3⟩ := pairsD_rps (K := K) e t h2
      cases r with
      | tup q1 q2 =>
        cases q2 with
        | cons r1 t1 =>
          cases t1 with
          | cons r2 t2 =>
            cases t2
            rename_i a vk vv
            have hk : vk = kV kk := by
              cases r1 <;> first | (cases h1; rfl) | cases h1
            subst hk
            exact ⟨a :: ps, (kk, vv) :: kvs', by rw [e1]; rfl, .cons (SqT.of (e _ _ q1)) e2, .cons ⟨rfl, r2⟩ e3⟩
    · cases h
theorem ok_dict {K : PySem.W.Frag} : CallOk (fun xs H Q => ∃ (a : Addr) (ps : List Addr) (kvs : List (Key × V)), xs = [.ref a] ∧ SqL K H a (ps.map V.ref) ∧ Paired (fun p kv => SqT K H p [kV kv.1, kv.2]) ps kvs ∧
    ∀ p, H p = none → Q (.ref p) (upd H p (.dK (mergeK [] kvs)))) gDict := fun B H vs ds o Q e hv hg hp => by
  unfold gDict at hg
  split at hg
  · obtain ⟨kvs, h1, hg⟩ := bind_some' hg
    cases hg
    obtain ⟨v, rfl, a, xs, rfl, h2, h3⟩ := vws1 hv
    obtain ⟨ps, kvs', rfl, e2, e3⟩ := pairsD_rps (K := K) e h3 h1
    exact ⟨a, ps, kvs', rfl, SqL.of h2, e2, fun p hp' => hp p _ hp' (kvr_merge e3 .nil)⟩
  · cases hg

/-! ### zip -/
def zipD : List D → List D → List D
  | a :: as, b :: bs => .tuple [a, b] :: zipD as bs
  | _, _ => []
def iZip' (a : SA) : SI := fun ρ => (a ρ).bind fun p => match p.1 with
  | [.val (.list xs), .val (.list ys)] => some (zipD xs ys, p.2)
  | [.val (.tuple xs), .val (.tuple ys)] => some (zipD xs ys, p.2)
  | _ => none
theorem zipD_len : ∀ (xs ys : List D), (zipD xs ys).length = min xs.length ys.length
  | [], _ => by simp [zipD]
  | _ :: _, [] => by simp [zipD]
  | x :: xs, y :: ys => by
    show (zipD xs ys).length + 1 = min (xs.length + 1) (ys.length + 1)
    rw [zipD_len xs ys]
    omega
theorem zipD_get : ∀ {xs ys : List D} {i : Nat} {d : D}, (zipD xs ys)[i]? = some d → ∃ x y, xs[i]? = some x ∧ ys[i]? = some y ∧ d = .tuple [x, y]
  | [], _, _, _, h => by simp [zipD] at h
  | _ :: _, [], _, _, h => by simp [zipD] at h
  | x :: xs, y :: ys, 0, d, h => by
    have h : some (PyData.tuple [x, y]) = some d := h
    cases h
    exact ⟨x, y, rfl, rfl, rfl⟩
  | x :: xs, y :: ys, i + 1, d, h => by
    have h : (zipD xs ys)[i]? = some d := h
    exact zipD_get (xs := xs) (ys := ys) (i := i) h
section
variable {X : Cx} {e e2 : Expr} {a : SA} {p pos tpos : Pos} {elts : List Expr} {kk : Nat}
theorem di_zip (hm : X.mg "zip" = none) (ha : DA X [e, e2] a) (hg : Gl X "zip" := by rfl) (hs : starEach [e, e2] X.env = (false, eval e X.env) :: starEach [e2] X.env := by rfl) (hpl : (backTo pos (starEach [e2] X.env)).any (·.1) = false := by rfl) :
    DI X (.Tuple elts kk tpos) (.Call (.Name "zip" p) [e, e2] [] pos) (iZip' a) := ⟨PI.imp (RZ.pi_zipA hg hm ha.pa hs hpl) fun σ H R q => by
  obtain ⟨m, B, ρ, ds, ρ', E, e, k⟩ := q
  obtain ⟨w, e1, e⟩ := bind_some' e
  split at e
  · rename_i xs ys hw
    cases e
    refine ⟨m, B, ρ, w.1, w.2, E, e1, fun vs H1 B1 g1 E1 R1 => ?_⟩
    rw [hw] at R1
    obtain ⟨v, ws, rfl, r1, r2⟩ := R1
    obtain ⟨v', ws', rfl, r3, r4⟩ := r2
    have r4 : ws' = [] := r4
    subst r4
    have r1 : Rp B1 v (.list xs) := r1
    have r3 : Rp B1 v' (.list ys) := r3
    cases r1 with
    | lst a1 a2 =>
      cases r3 with
      | lst b1 b2 =>
        refine ⟨_, _, _, _, rfl, .inl ⟨SqL.of (E1.bH _ _ a1), SqL.of (E1.bH _ _ b1), k _ H1 B1 g1 E1 fun i H e => ?_⟩⟩
        have l1 := e _ _ a1
        have l2 := e _ _ b1
        refine ⟨fun hl => ⟨_, _, SqL.of l1, SqL.of l2, ?_⟩, fun d hd => ?_⟩
        · rw [zipD_len] at hl
          rw [a2.len, b2.len]
          omega
        · obtain ⟨x, y, hx, hy, rfl⟩ := zipD_get hd
          obtain ⟨u, f1, f2⟩ := a2.at hx
          obtain ⟨u', f3, f4⟩ := b2.at hy
          refine ⟨⟨_, _, u, u', SqL.of l1, SqL.of l2, f1, f3⟩, fun z H' ⟨T, x1, x2, t1, t2, t3, t4, t5⟩ => .inr ⟨T, [x1, x2], _, t1, t2, t3, rfl, ?_⟩⟩
          have q1 := t4 _ (SqL.of l1)
          have q2 := t5 _ (SqL.of l2)
          rw [f1] at q1
          rw [f3] at q2
          cases q1
          cases q2
          exact .cons f2 (.cons f4 .nil)
  · rename_i xs ys hw
    cases e
    refine ⟨m, B, ρ, w.1, w.2, E, e1, fun vs H1 B1 g1 E1 R1 => ?_⟩
    rw [hw] at R1
    obtain ⟨v, ws, rfl, r1, r2⟩ := R1
    obtain ⟨v', ws', rfl, r3, r4⟩ := r2
    have r4 : ws' = [] := r4
    subst r4
    have r1 : Rp B1 v (.tuple xs) := r1
    have r3 : Rp B1 v' (.tuple ys) := r3
    cases r1 with
    | tup a1 a2 =>
      cases r3 with
      | tup b1 b2 =>
        refine ⟨_, _, _, _, rfl, .inr ⟨SqT.of (E1.bH _ _ a1), SqT.of (E1.bH _ _ b1), k _ H1 B1 g1 E1 fun i H e => ?_⟩⟩
        have l1 := e _ _ a1
        have l2 := e _ _ b1
        refine ⟨fun hl => ⟨_, _, SqT.of l1, SqT.of l2, ?_⟩, fun d hd => ?_⟩
        · rw [zipD_len] at hl
          rw [a2.len, b2.len]
          omega
        · obtain ⟨x, y, hx, hy, rfl⟩ := zipD_get hd
          obtain ⟨u, f1, f2⟩ := a2.at hx
          obtain ⟨u', f3, f4⟩ := b2.at hy
          refine ⟨⟨_, _, u, u', SqT.of l1, SqT.of l2, f1, f3⟩, fun z H' ⟨T, x1, x2, t1, t2, t3, t4, t5⟩ => .inr ⟨T, [x1, x2], _, t1, t2, t3, rfl, ?_⟩⟩
          have q1 := t4 _ (SqT.of l1)
          have q2 := t5 _ (SqT.of l2)
          rw [f1] at q1
          rw [f3] at q2
          cases q1
          cases q2
          exact .cons f2 (.cons f4 .nil)
  · cases e⟩
end
end DL

namespace DL
open PySem PySem.Spec PyProof.Rows L2

/-! ### list(range(..)), tuple(range(..)) -/
def twoI (f1 f2 : SE) : Env → Option ((Int × Int) × Env) := fun ρ => (f1 ρ).bind fun p => match p.1 with
  | .val (.int i) => (f2 p.2).bind fun q => match q.1 with
    | .val (.int j) => some ((i, j), q.2)
    | _ => none
  | _ => none
def okRg (a b : Int) : Bool := decide (-(2 ^ 62) ≤ a ∧ a < 2 ^ 62 ∧ -(2 ^ 62) ≤ b ∧ b < 2 ^ 62 ∧ (b - a).toNat ≤ 2 ^ 24)
def dRgL (t : Bool) (f1 f2 : SE) : SE := fun ρ => (twoI f1 f2 ρ).bind fun p => if okRg p.1.1 p.1.2 then some (if t then .val (.tuple (rangeD p.1.1 (p.1.2 - p.1.1).toNat)) else .new (.own false (rangeD p.1.1 (p.1.2 - p.1.1).toNat)), p.2) else none
theorem okRg_ok {a b : Int} (h : okRg a b = true) : RgOk a b := by
  have q := of_decide_eq_true h
  exact q
theorem rgV_rps {B : Hp} (a b : Int) : Rps B (rgV a b) (rangeD a (b - a).toNat) := by
  have e1 : rgV a b = ((List.range (b - a).toNat).map fun i => a + (i : Nat)).map V.int := by
    unfold rgV
    rw [List.map_map]
    rfl
  have e2 : rangeD a (b - a).toNat = ((List.range (b - a).toNat).map fun i => a + (i : Nat)).map PyData.int := by
    unfold rangeD
    rw [List.map_map]
    rfl
  rw [e1, e2]
  exact Rps.ofInts _
section
variable {X : Cx} {a b : Expr} {f1 f2 : SE} {p q pos pos' : Pos}
theorem twoI_of {K : PySem.W.Frag} {m : Fm} {B H : Hp} {σ : L2.St} {ρ ρ' : Env} {i j : Int} {Q : Int → Int → Hp → Prop} (E : ERep K m B H σ ρ) (e : twoI f1 f2 ρ = some ((i, j), ρ'))
    (k : ∀ H' B', Grow m B B' → ERep K m B' H' σ ρ' → Q i j H') : tRg2 (tD K f1) (tD K f2) σ H Q := by
  obtain ⟨p, h1, e⟩ := bind_some' e
  split at e
  · rename_i i' hi
    obtain ⟨w, h2, e⟩ := bind_some' e
    split at e
    · rename_i j' hj
      cases e
      refine ⟨m, B, ρ, p.1, p.2, E, h1, fun x H1 B1 g1 E1 R1 => ?_⟩
      rw [hi] at R1
      refine ⟨m, B1, p.2, w.1, w.2, E1, h2, fun y H2 B2 g2 E2 R2 => ?_⟩
      rw [hj] at R2
      have R1 : Rp B1 x (.int i) := R1
      have R2 : Rp B2 y (.int j) := R2
      cases R1
      cases R2
      exact ⟨i, j, rfl, rfl, k H2 B2 (g1.trans g2) E2⟩
    · cases e
  · cases e
theorem de_listRg2 (hc : X.calm = true) (hl : X.mg "list" = none) (hm : X.mg "range" = none) (ha : DE X a f1) (hb : DE X b f2) (hgl : Gl X "list" := by rfl) (hg : Gl X "range" := by rfl)
    (na : starEach [a, b] X.env = (false, eval a X.env) :: starEach [b] X.env := by rfl) (nb : starEach [b] X.env = (false, eval b X.env) :: starEach [] X.env := by rfl) (np : (backTo pos (starEach [b] X.env)).any (·.1) = false := by rfl)
    (nc : starEach [Expr.Call (.Name "range" q) [a, b] [] pos] X.env = (false, eval (Expr.Call (.Name "range" q) [a, b] [] pos) X.env) :: starEach [] X.env := by rfl) :
    DE X (.Call (.Name "list" p) [.Call (.Name "range" q) [a, b] [] pos] [] pos') (dRgL false f1 f2) := ⟨PE.imp (pe_listRg hc hgl hl (prg_2 hg hm ha.pe hb.pe na nb np) nc) fun σ H Q h => by
  obtain ⟨m, B, ρ, r, ρ', E, e, k⟩ := h
  obtain ⟨w, h1, e⟩ := bind_some' e
  split at e
  · rename_i hok
    cases e
    refine twoI_of (i := w.1.1) (j := w.1.2) E h1 fun H1 B1 g1 E1 => ⟨okRg_ok hok, fun l hl => ?_⟩
    exact k _ _ B1 g1 (E1.laid hl) ⟨rfl, rfl, ⟨l, _, rfl, none_of_same E1.bH hl, none_of_same E1.fH hl, upd_same, rgV_rps _ _⟩, own_ne_new E1 hl⟩
  · cases e⟩
theorem de_tupRg2 (hc : X.calm = true) (hl : X.mg "tuple" = none) (hm : X.mg "range" = none) (ha : DE X a f1) (hb : DE X b f2) (hgl : Gl X "tuple" := by rfl) (hg : Gl X "range" := by rfl)
    (na : starEach [a, b] X.env = (false, eval a X.env) :: starEach [b] X.env := by rfl) (nb : starEach [b] X.env = (false, eval b X.env) :: starEach [] X.env := by rfl) (np : (backTo pos (starEach [b] X.env)).any (·.1) = false := by rfl)
    (nc : starEach [Expr.Call (.Name "range" q) [a, b] [] pos] X.env = (false, eval (Expr.Call (.Name "range" q) [a, b] [] pos) X.env) :: starEach [] X.env := by rfl) :
    DE X (.Call (.Name "tuple" p) [.Call (.Name "range" q) [a, b] [] pos] [] pos') (dRgL true f1 f2) := ⟨PE.imp (pe_tupRg hc hgl hl (prg_2 hg hm ha.pe hb.pe na nb np) nc) fun σ H Q h => by
  obtain ⟨m, B, ρ, r, ρ', E, e, k⟩ := h
  obtain ⟨w, h1, e⟩ := bind_some' e
  split at e
  · rename_i hok
    cases e
    refine twoI_of (i := w.1.1) (j := w.1.2) E h1 fun H1 B1 g1 E1 => ⟨okRg_ok hok, fun l hl => ?_⟩
    obtain ⟨g2, E2⟩ := E1.laidIn (o := .tup (rgV w.1.1 w.1.2)) hl
    exact k _ _ _ (g1.trans g2) E2 (Rp.tup upd_same ((rgV_rps _ _).up g2.1))
  · cases e⟩
theorem de_listRg1 (hc : X.calm = true) (hl : X.mg "list" = none) (hm : X.mg "range" = none) (ha : DE X a f1) (hgl : Gl X "list" := by rfl) (hg : Gl X "range" := by rfl)
    (na : starEach [a] X.env = (false, eval a X.env) :: starEach [] X.env := by rfl) 
    (nc : starEach [Expr.Call (.Name "range" q) [a] [] pos] X.env = (false, eval (Expr.Call (.Name "range" q) [a] [] pos) X.env) :: starEach [] X.env := by rfl) :
    DE X (.Call (.Name "list" p) [.Call (.Name "range" q) [a] [] pos] [] pos') (dRgL false (dC (.int 0)) f1) := ⟨PE.imp (pe_listRg hc hgl hl (prg_1 hg hm ha.pe na) nc) fun σ H Q h => by
  obtain ⟨m, B, ρ, r, ρ', E, e, k⟩ := h
  obtain ⟨w, h1, e⟩ := bind_some' e
  split at e
  · rename_i hok
    cases e
    -- the first bound is the written nought
    obtain ⟨p, h2, h1'⟩ := bind_some' h1
    cases h2
    obtain ⟨q', h3, h1'⟩ := bind_some' h1'
    split at h1'
    · rename_i j hj
      cases h1'
      refine ⟨m, B, ρ, q'.1, q'.2, E, h3, fun x H1 B1 g1 E1 R1 => ?_⟩
      rw [hj] at R1
      have R1 : Rp B1 x (.int j) := R1
      cases R1
      exact ⟨j, rfl, okRg_ok hok, fun l hl => k _ _ B1 g1 (E1.laid hl) ⟨rfl, rfl, ⟨l, _, rfl, none_of_same E1.bH hl, none_of_same E1.fH hl, upd_same, rgV_rps _ _⟩, own_ne_new E1 hl⟩⟩
    · cases h1'
  · cases e⟩
/-- a list or a tuple -/
def iAny (f : SE) : SI := fun ρ => (f ρ).bind fun p => (settle p.1 p.2).bind fun w => match w.1 with
  | .list ds => some (ds, w.2)
  | .tuple ds => some (ds, w.2)
  | _ => none
theorem di_any {tg e : Expr} {f : SE} (h : DE X e f) : DI X tg e (iAny f) := by
  have h1 := (di_list (tg := tg) h).pi
  have h2 := (di_tup (tg := tg) h).pi
  refine ⟨⟨fun pins s σ H R I q => ?_⟩⟩
  obtain ⟨m, B, ρ, ds, ρ', E, e, k⟩ := q
  obtain ⟨p, e1, e⟩ := bind_some' e
  obtain ⟨w, e2, e⟩ := bind_some' e
  split at e
  · rename_i ds' hds
    cases e
    refine h1.run pins s σ H R I ⟨m, B, ρ, ds, w.2, E, ?_, k⟩
    show ((f ρ).bind fun p => (settle p.1 p.2).bind fun w => match w.1 with
      | .list ds => some (ds, w.2)
      | _ => none) = _
    rw [e1]
    show ((settle p.1 p.2).bind fun w => match w.1 with
      | .list ds => some (ds, w.2)
      | _ => none) = _
    rw [e2]
    show (match w.1 with
      | .list ds => some (ds, w.2)
      | _ => none) = _
    rw [hds]
  · rename_i ds' hds
    cases e
    refine h2.run pins s σ H R I ⟨m, B, ρ, ds, w.2, E, ?_, k⟩
    show ((f ρ).bind fun p => (settle p.1 p.2).bind fun w => match w.1 with
      | .tuple ds => some (ds, w.2)
      | _ => none) = _
    rw [e1]
    show ((settle p.1 p.2).bind fun w => match w.1 with
      | .tuple ds => some (ds, w.2)
      | _ => none) = _
    rw [e2]
    show (match w.1 with
      | .tuple ds => some (ds, w.2)
      | _ => none) = _
    rw [hds]
  · cases e
end
end DL

namespace DL
open PySem PySem.Spec PyProof.Rows L2

/-! ### the combinators, applied -/
section
variable {ρ : Env} {i j l : Nat} {d : D} {f f1 f2 f3 : SE} {h h1 h2 : ST} {g g' : D → D → Option ORes} {a : SA} {c : List D → Option ORes} {s t b : SS} {k : SK} {src : SI} {tg : SG} {lo hi : SO} {vs : List Nat} {gm : List D → List D → Option (List D × D)}
theorem dVar_ap : dVar i ρ = match ρ[i]? with
  | some (some (.val d)) => some (.val d, ρ)
  | some (some _) => some (.at i, ρ)
  | _ => none := rfl
theorem dC_ap : dC d ρ = some (.val d, ρ) := rfl
theorem dOp_ap : dOp g f1 f2 ρ = (f1 ρ).bind fun p => (stab p.1).bind fun r1 => (f2 p.2).bind fun q => (dat q.2 r1).bind fun d1 => (dat q.2 q.1).bind fun d2 => (g d1 d2).bind fun o => some (o.r, q.2) := rfl
theorem dNeg_ap : dNeg f ρ = (f ρ).bind fun p => match p.1 with
  | .val (.int i) => some (.val (.int (-i)), p.2)
  | _ => none := rfl
theorem dTest_ap : dTest f ρ = (f ρ).bind fun p => match p.1 with
  | .val (.bool b) => some (b, p.2)
  | _ => none := rfl
theorem dTruth_ap : dTruth f ρ = (f ρ).bind fun p => (dat p.2 p.1).bind fun d => (truD d).bind fun b => some (b, p.2) := rfl
theorem hAnd_ap : hAnd h1 h2 ρ = (h1 ρ).bind fun p => if p.1 then h2 p.2 else some (false, p.2) := rfl
theorem hOr_ap : hOr h1 h2 ρ = (h1 ρ).bind fun p => if p.1 then some (true, p.2) else h2 p.2 := rfl
theorem hNot_ap : hNot h ρ = (h ρ).bind fun p => some (!p.1, p.2) := rfl
theorem hYes_ap : hYes ρ = some (true, ρ) := rfl
theorem dAnd_ap : dAnd f1 f2 ρ = (dTest f1 ρ).bind fun p => if p.1 then f2 p.2 else some (.val (.bool false), p.2) := rfl
theorem dOr_ap : dOr f1 f2 ρ = (dTest f1 ρ).bind fun p => if p.1 then some (.val (.bool true), p.2) else f2 p.2 := rfl
theorem dNot_ap : dNot f ρ = (dTest f ρ).bind fun p => some (.val (.bool (!p.1)), p.2) := rfl
theorem dIf_ap : dIf h f1 f2 ρ = (h ρ).bind fun p => if p.1 then f1 p.2 else f2 p.2 := rfl
theorem dChain_ap : dChain g g' f1 f2 f3 ρ = (f1 ρ).bind fun p => (stab p.1).bind fun r1 => (f2 p.2).bind fun q => (stab q.1).bind fun r2 => (dat q.2 r1).bind fun d1 => (dat q.2 r2).bind fun d2 => (g d1 d2).bind fun o => match o with
    | .vl (.bool k) => if k then (f3 q.2).bind fun w => (dat w.2 r2).bind fun d2' => (dat w.2 w.1).bind fun d3 => (g' d2' d3).bind fun o' => some (o'.r, w.2) else some (.val (.bool false), q.2)
    | _ => none := rfl
theorem aNil_ap : aNil ρ = some ([], ρ) := rfl
theorem aCons_ap : aCons f a ρ = (f ρ).bind fun p => (stab p.1).bind fun r => (a p.2).bind fun q => some (r :: q.1, q.2) := rfl
theorem aVal_ap : aVal f a ρ = (f ρ).bind fun p => (settle p.1 p.2).bind fun w => (a w.2).bind fun q => some (.val w.1 :: q.1, q.2) := rfl
theorem aLend_ap : aLend i a ρ = match ρ[i]? with
  | some (some (.val _)) => none
  | some (some _) => (a ρ).bind fun q => some (.at i :: q.1, q.2)
  | _ => none := rfl
theorem kNil_ap : kNil ρ = some ([], ρ) := rfl
theorem kCons_ap : kCons f k ρ = (f ρ).bind fun p => (keepS p.1 p.2).bind fun w => (k w.2).bind fun q => some (w.1 :: q.1, q.2) := rfl
theorem dCB_ap : dCB c a ρ = (a ρ).bind fun p => (dats p.2 p.1).bind fun ds => (c ds).bind fun o => some (o.r, p.2) := rfl
theorem dTup_ap : dTup a ρ = (a ρ).bind fun p => (vals p.1).bind fun ds => if ds.length ≤ 1000 then some (.val (.tuple ds), p.2) else none := rfl
theorem dLst_ap : dLst a ρ = (a ρ).bind fun p => (vals p.1).bind fun ds => if ds.length ≤ 1000 then some (.new (.own false ds), p.2) else none := rfl
theorem dSl_ap : dSl f lo hi ρ = (f ρ).bind fun p => (stab p.1).bind fun r => (lo p.2).bind fun a => (hi a.2).bind fun b => (dat b.2 r).bind fun d => (gSl a.1 b.1 d).bind fun o => some (o.r, b.2) := rfl
theorem oNone_ap : oNone ρ = some (none, ρ) := rfl
theorem oSome_ap : oSome f ρ = (f ρ).bind fun p => match p.1 with
  | .val (.int i) => some (some i, p.2)
  | _ => none := rfl
theorem dMut_ap : dMut i gm a ρ = match ρ[i]? with
  | some (some (.own _ _)) => (a ρ).bind fun p => (vals p.1).bind fun es => match p.2[i]? with
    | some (some (.own b ds)) => (gm ds es).bind fun q => some (.val q.2, p.2.set i (some (.own b q.1)))
    | _ => none
  | _ => none := rfl
theorem dListScr_ap : dListScr i ρ = match ρ[i]? with
  | some (some (.scr ns)) => some (.new (.own false (ns.map PyData.int)), ρ)
  | _ => none := rfl
theorem dRgL_ap {tt : Bool} : dRgL tt f1 f2 ρ = (twoI f1 f2 ρ).bind fun p => if okRg p.1.1 p.1.2 then some (if tt then .val (.tuple (rangeD p.1.1 (p.1.2 - p.1.1).toNat)) else .new (.own false (rangeD p.1.1 (p.1.2 - p.1.1).toNat)), p.2) else none := rfl
theorem twoI_ap : twoI f1 f2 ρ = (f1 ρ).bind fun p => match p.1 with
  | .val (.int i) => (f2 p.2).bind fun q => match q.1 with
    | .val (.int j) => some ((i, j), q.2)
    | _ => none
  | _ => none := rfl
theorem dLc_ap : dLc src tg h f vs ρ = (src ρ).bind fun p => (lcLoop tg h f vs p.1 [] (wipeE p.2 vs)).bind fun q => some (.new (.own false q.1), restE p.2 vs q.2) := rfl
theorem dCallN_ap {n m : Nat} : dCallN b n m a ρ = (a ρ).bind fun p => (argSl p.2 p.1).bind fun args => if (lentAt p.1).Nodup ∧ args.length = m then (callF b n args).bind fun q => some (q.1, putBack p.1 q.2 p.2) else none := rfl
theorem dSkip_ap : dSkip ρ = some (.nx, ρ) := rfl
theorem dSeq_ap : dSeq s t ρ = (s ρ).bind fun p => match p.1 with
  | .nx => t p.2
  | fl => some (fl, p.2) := rfl
theorem dAsg_ap : dAsg i f ρ = (f ρ).bind fun p => (storeR i p.1 p.2).bind fun ρ' => some (.nx, ρ') := rfl
theorem dAsgG_ap : dAsgG tg f ρ = (f ρ).bind fun p => (settle p.1 p.2).bind fun w => (tg w.1 w.2).bind fun ρ' => some (.nx, ρ') := rfl
theorem dExpr_ap : dExpr f ρ = (f ρ).bind fun p => some (.nx, p.2) := rfl
theorem dRet_ap : dRet f ρ = (f ρ).bind fun p => some (.rt p.1, p.2) := rfl
theorem dRetN_ap : dRetN ρ = some (.rt (.val .none), ρ) := rfl
theorem dBrk_ap : dBrk ρ = some (.bk, ρ) := rfl
theorem dCnt_ap : dCnt ρ = some (.ct, ρ) := rfl
theorem dIfS_ap : dIfS h s t ρ = (h ρ).bind fun p => if p.1 then s p.2 else t p.2 := rfl
theorem dAug_ap {op : Int → Int → Int} : dAug i op f ρ = match ρ[i]? with
  | some (some (.val (.int a))) => (f ρ).bind fun p => match p.1 with
    | .val (.int b) => some (.nx, p.2.set i (some (.val (.int (op a b)))))
    | _ => none
  | _ => none := rfl
theorem dSetI_ap : dSetI i f1 f ρ = (f ρ).bind fun p => (settle p.1 p.2).bind fun w => match w.2[i]? with
  | some (some (.own _ _)) => (f1 w.2).bind fun q => match q.1, q.2[i]? with
    | .val (.int k), some (some (.own b ds)) => (ixN ds.length k).bind fun j => some (.nx, q.2.set i (some (.own b (ds.set j w.1))))
    | _, _ => none
  | _ => none := rfl
theorem dFor_ap : dFor src tg b ρ = (src ρ).bind fun p => forL tg b p.1 p.2 := rfl
theorem dPar2_ap : dPar2 i j k ρ = (k ρ).bind fun p => match p.1 with
  | [s, t] => some (.nx, (p.2.set i (some s)).set j (some t))
  | _ => none := rfl
theorem dPar3_ap : dPar3 i j l k ρ = (k ρ).bind fun p => match p.1 with
  | [s, t, u] => some (.nx, ((p.2.set i (some s)).set j (some t)).set l (some u))
  | _ => none := rfl
theorem iAny_ap : iAny f ρ = (f ρ).bind fun p => (settle p.1 p.2).bind fun w => match w.1 with
  | .list ds => some (ds, w.2)
  | .tuple ds => some (ds, w.2)
  | _ => none := rfl
theorem iRng1_ap : iRng1' a ρ = (a ρ).bind fun p => match p.1 with
  | [.val (.int j)] => if -(2 ^ 62) ≤ j ∧ j < 2 ^ 62 then some (rangeD 0 j.toNat, p.2) else none
  | _ => none := rfl
theorem iRng2_ap : iRng2' a ρ = (a ρ).bind fun p => match p.1 with
  | [.val (.int i), .val (.int j)] => if -(2 ^ 62) ≤ i ∧ i < 2 ^ 62 ∧ -(2 ^ 62) ≤ j ∧ j < 2 ^ 62 then some (rangeD i (j - i).toNat, p.2) else none
  | _ => none := rfl
theorem iZip_ap : iZip' a ρ = (a ρ).bind fun p => match p.1 with
  | [.val (.list xs), .val (.list ys)] => some (zipD xs ys, p.2)
  | [.val (.tuple xs), .val (.tuple ys)] => some (zipD xs ys, p.2)
  | _ => none := rfl
theorem gN_ap : gN i d ρ = some (ρ.set i (some (.val d))) := rfl
theorem gT_ap {n : Nat} {gs : List D → Env → Option Env} {ds : List D} : gT n gs (.tuple ds) ρ = if ds.length = n then gs ds ρ else none := rfl
theorem gsNil_ap : gsNil [] ρ = some ρ := rfl
theorem gsCons_ap {gs : List D → Env → Option Env} {ds : List D} : gsCons tg gs (d :: ds) ρ = (tg d ρ).bind fun ρ1 => gs ds ρ1 := rfl
end
theorem storeR_val {i : Nat} {d : D} {ρ : Env} : storeR i (.val d) ρ = some (ρ.set i (some (.val d))) := rfl
theorem storeR_new {i : Nat} {s : Sl} {ρ : Env} : storeR i (.new s) ρ = some (ρ.set i (some s)) := rfl
theorem storeR_at {i j : Nat} {ρ : Env} : storeR i (.at j) ρ = (settle (.at j) ρ).bind fun w => some (w.2.set i (some (.val w.1))) := rfl
theorem settle_val {d : D} {ρ : Env} : settle (.val d) ρ = some (d, ρ) := rfl
theorem settle_new {p : Bool} {ds : List D} {ρ : Env} : settle (.new (.own p ds)) ρ = some (.list ds, ρ) := rfl
theorem settle_at {i : Nat} {ρ : Env} : settle (.at i) ρ = match ρ[i]? with
    | some (some (.val d)) => some (d, ρ)
    | some (some (.own _ ds)) => some (.list ds, ρ.set i (some (.val (.list ds))))
    | _ => none := rfl
theorem stab_val {d : D} : stab (.val d) = some (.val d) := rfl
theorem stab_new {p : Bool} {ds : List D} : stab (.new (.own p ds)) = some (.val (.list ds)) := rfl
theorem stab_at {i : Nat} : stab (.at i) = some (.at i) := rfl
theorem dat_val {d : D} {ρ : Env} : dat ρ (.val d) = some d := rfl
theorem dat_new {s : Sl} {ρ : Env} : dat ρ (.new s) = s.data := rfl
theorem dat_at {i : Nat} {ρ : Env} : dat ρ (.at i) = (ρ[i]?).join.bind Sl.data := rfl
theorem data_val {d : D} : Sl.data (.val d) = some d := rfl
theorem data_own {p : Bool} {ds : List D} : Sl.data (.own p ds) = some (.list ds) := rfl
theorem data_dic {p : Bool} {kvs : List (Key × D)} : Sl.data (.dic p kvs) = some (.dict (kvs.map fun p => (kD p.1, p.2))) := rfl
theorem keepS_val {d : D} {ρ : Env} : keepS (.val d) ρ = some (.val d, ρ) := rfl
theorem keepS_new {s : Sl} {ρ : Env} : keepS (.new s) ρ = some (s, ρ) := rfl
theorem keepS_at {i : Nat} {ρ : Env} : keepS (.at i) ρ = (settle (.at i) ρ).bind fun w => some (.val w.1, w.2) := rfl
theorem dats_nil {ρ : Env} : dats ρ [] = some [] := rfl
theorem dats_cons {ρ : Env} {r : R} {rs : List R} : dats ρ (r :: rs) = (dat ρ r).bind fun d => (dats ρ rs).bind fun ds => some (d :: ds) := rfl
theorem vals_nil : vals [] = some [] := rfl
theorem vals_cons {d : D} {rs : List R} : vals (.val d :: rs) = (vals rs).bind fun ds => some (d :: ds) := rfl
theorem ores_vl {d : D} : (ORes.vl d).r = .val d := rfl
theorem ores_ls {ds : List D} : (ORes.ls ds).r = .new (.own false ds) := rfl
theorem ores_tp {ds : List D} : (ORes.tp ds).r = .val (.tuple ds) := rfl
theorem ores_dc {ds : List (Key × D)} : (ORes.dc ds).r = .new (.dic false ds) := rfl
theorem argSl_nil {ρ : Env} : argSl ρ [] = some [] := rfl
theorem argSl_val {ρ : Env} {d : D} {rs : List R} : argSl ρ (.val d :: rs) = (argSl ρ rs).bind fun ss => some (.val d :: ss) := rfl
theorem argSl_at {ρ : Env} {i : Nat} {rs : List R} : argSl ρ (.at i :: rs) = match ρ[i]? with
    | some (some (.own _ ds)) => (argSl ρ rs).bind fun ss => some (.own true ds :: ss)
    | some (some (.dic _ kvs)) => (argSl ρ rs).bind fun ss => some (.dic true kvs :: ss)
    | some (some (.scr ns)) => (argSl ρ rs).bind fun ss => some (.scr ns :: ss)
    | _ => none := rfl
theorem lentAt_nil : lentAt [] = [] := rfl
theorem lentAt_val {d : D} {rs : List R} : lentAt (.val d :: rs) = lentAt rs := rfl
theorem lentAt_at {i : Nat} {rs : List R} : lentAt (.at i :: rs) = i :: lentAt rs := rfl
theorem putBack_nil {os ρ : Env} : putBack [] os ρ = ρ := rfl
theorem putBack_val {os ρ : Env} {d : D} {rs : List R} : putBack (.val d :: rs) os ρ = putBack rs os.tail ρ := rfl
theorem putBack_own {os ρ : Env} {i : Nat} {p q : Bool} {ds es : List D} {rs : List R} (h : ρ[i]? = some (some (.own p ds))) : putBack (.at i :: rs) (some (.own q es) :: os) ρ = putBack rs os (ρ.set i (some (.own p es))) := by
  show putBack rs os (match ρ[i]? with
    | some (some (.own p _)) => _
    | some (some (.dic p _)) => _
    | _ => ρ) = _
  rw [h]
  rfl
theorem putBack_scr {os ρ : Env} {i : Nat} {ns : List Int} {rs : List R} (h : ρ[i]? = some (some (.scr ns))) : putBack (.at i :: rs) os ρ = putBack rs os.tail ρ := by
  show putBack rs os.tail (match ρ[i]? with
    | some (some (.own p _)) => _
    | some (some (.dic p _)) => _
    | _ => ρ) = _
  rw [h]
theorem tail_cons {o : Option Sl} {os : Env} : List.tail (o :: os) = os := rfl
/-! ints, lists -/
section
variable {i j : Int} {a b : List D} {k : Bool}
theorem gAdd_int : gAdd (.int i) (.int j) = some (.vl (.int (i + j))) := rfl
theorem gAdd_list (h : a.length + b.length ≤ 16777216) : gAdd (.list a) (.list b) = some (.ls (a ++ b)) := by
  show (match gCat (.list a) (.list b) with | some o => some o | none => _) = _
  unfold gCat
  dsimp only
  rw [if_pos h]
theorem gAdd_tuple (h : a.length + b.length ≤ 16777216) : gAdd (.tuple a) (.tuple b) = some (.tp (a ++ b)) := by
  show gCatT (.tuple a) (.tuple b) = _
  unfold gCatT
  dsimp only
  rw [if_pos h]
theorem gSub_int : gSub (.int i) (.int j) = some (.vl (.int (i - j))) := rfl
theorem gMul_int (h : (-(2 ^ 64) < i ∧ i < 2 ^ 64) ∨ (-(2 ^ 64) < j ∧ j < 2 ^ 64)) : gMul (.int i) (.int j) = some (.vl (.int (i * j))) := by
  have e : gMulI (.int i) (.int j) = some (.vl (.int (i * j))) := by
    show (if decide _ = true then _ else _) = _
    rw [decide_eq_true h]
    rfl
  show (match gMulI (.int i) (.int j) with | some o => some o | none => _) = _
  rw [e]
theorem gDiv_int (h : 0 < j ∧ j < 1073741824) : gDiv (.int i) (.int j) = some (.vl (.int (i / j))) := by
  show (if decide _ = true then _ else _) = _
  rw [decide_eq_true h]
  rfl
theorem gMod_int (h : 0 < j) : gMod (.int i) (.int j) = some (.vl (.int (i % j))) := by
  show (if decide _ = true then _ else _) = _
  rw [decide_eq_true h]
  rfl
theorem gLt_int : gLt (.int i) (.int j) = some (.vl (.bool (decide (i < j)))) := rfl
theorem gLe_int : gLe (.int i) (.int j) = some (.vl (.bool (decide (i ≤ j)))) := rfl
theorem gGt_int : gGt (.int i) (.int j) = some (.vl (.bool (decide (j < i)))) := rfl
theorem gGe_int : gGe (.int i) (.int j) = some (.vl (.bool (decide (j ≤ i)))) := rfl
theorem gEq_int : gEq (.int i) (.int j) = some (.vl (.bool (i == j))) := rfl
theorem gNe_int : gNe (.int i) (.int j) = some (.vl (.bool (!(i == j)))) := rfl
theorem gIx_list : gIx (.list a) (.int i) = (atI a i).bind fun d => some (.vl d) := rfl
theorem gIx_tuple : gIx (.tuple a) (.int i) = (atI a i).bind fun d => some (.vl d) := rfl
theorem gLen_list : gLen [.list a] = some (.vl (.int (a.length : Nat))) := rfl
theorem gLen_tuple : gLen [.tuple a] = some (.vl (.int (a.length : Nat))) := rfl
theorem gMax2_int : gMax2 [.int i, .int j] = some (.vl (.int (if j > i then j else i))) := rfl
theorem gMin2_int : gMin2 [.int i, .int j] = some (.vl (.int (if j < i then j else i))) := rfl
theorem gInt_int : gInt [.int i] = some (.vl (.int i)) := rfl
theorem gInt_bool : gInt [.bool k] = some (.vl (.int (if k then 1 else 0))) := rfl
theorem gAbs_int : gAbs [.int i] = some (.vl (.int (if i < 0 then -i else i))) := rfl
theorem gList_list : gList [.list a] = some (.ls a) := rfl
theorem gTuple_list : gTuple [.list a] = some (.tp a) := rfl
theorem truD_list : truD (.list a) = some (!a.isEmpty) := rfl
theorem truD_tuple : truD (.tuple a) = some (!a.isEmpty) := rfl
theorem truD_bool : truD (.bool k) = some k := rfl
theorem gApp_one {d : D} (h : a.length < 16777216) : gApp a [d] = some (a ++ [d], .none) := by
  show (if _ then _ else _) = _
  rw [if_pos h]
theorem gPop_last {d : D} : gPop (a ++ [d]) [] = some (a, d) := by
  show (((a ++ [d])[(a ++ [d]).length - 1]?).bind fun x => some ((a ++ [d]).dropLast, x)) = _
  rw [List.length_append, List.length_singleton, Nat.add_sub_cancel, List.getElem?_append_right (Nat.le_refl _), Nat.sub_self, List.dropLast_concat]
  rfl
theorem gPopAt_zero {d : D} : gPopAt (d :: a) [.int 0] = some (a, d) := rfl
theorem gRev_nil : gRev a [] = some (a.reverse, .none) := rfl
theorem atI_zero {α : Type} {x : α} {xs : List α} : atI (x :: xs) 0 = some x := by
  have := atI_nat (xs := x :: xs) (j := 0) (v := x) rfl
  exact this
theorem atI_one {α : Type} {x y : α} {xs : List α} : atI (x :: y :: xs) 1 = some y := by
  have := atI_nat (xs := x :: y :: xs) (j := 1) (v := y) rfl
  exact this
theorem atI_two {α : Type} {x y z : α} {xs : List α} : atI (x :: y :: z :: xs) 2 = some z := by
  have := atI_nat (xs := x :: y :: z :: xs) (j := 2) (v := z) rfl
  exact this
theorem atI_three {α : Type} {x y z u : α} {xs : List α} : atI (x :: y :: z :: u :: xs) 3 = some u := by
  have := atI_nat (xs := x :: y :: z :: u :: xs) (j := 3) (v := u) rfl
  exact this
theorem atI_last1 {α : Type} {x : α} {xs : List α} : atI (xs ++ [x]) (-1) = some x := atI_last xs x
end
/-! loops -/
theorem forL_nil {g : SG} {b : SS} {ρ : Env} : forL g b [] ρ = some (.nx, ρ) := rfl
theorem forL_cons {g : SG} {b : SS} {d : D} {ds : List D} {ρ : Env} : forL g b (d :: ds) ρ = (g d ρ).bind fun ρ1 => (b ρ1).bind fun p => match p.1 with
    | .nx => forL g b ds p.2
    | .ct => forL g b ds p.2
    | .bk => some (.nx, p.2)
    | .rt r => some (.rt r, p.2) := rfl
/-- a for by what holds between the turns: no early end -/
theorem forL_inv {g : SG} {b : SS} {α : Type} {en : α → D} (W : List α → Env → Prop) (hs : ∀ pre x ρ, W pre ρ → ∃ ρ1 ρ2 fl, g (en x) ρ = some ρ1 ∧ b ρ1 = some (fl, ρ2) ∧ (fl = .nx ∨ fl = .ct) ∧ W (pre ++ [x]) ρ2) :
    ∀ (xs pre : List α) (ρ : Env), W pre ρ → ∃ ρ', forL g b (xs.map en) ρ = some (.nx, ρ') ∧ W (pre ++ xs) ρ'
  | [], pre, ρ, h => ⟨ρ, rfl, by rw [List.append_nil]; exact h⟩
  | x :: xs, pre, ρ, h => by
    obtain ⟨ρ1, ρ2, fl, h1, h2, h3, h4⟩ := hs pre x ρ h
    obtain ⟨ρ', h5, h6⟩ := forL_inv W hs xs (pre ++ [x]) ρ2 h4
    refine ⟨ρ', ?_, by rw [List.append_assoc] at h6; exact h6⟩
    rw [List.map_cons, forL_cons, h1]
    show ((b ρ1).bind _) = _
    rw [h2]
    rcases h3 with rfl | rfl
    · exact h5
    · exact h5
/-- a fold -/
theorem forL_fold {g : SG} {b : SS} {α β : Type} {en : α → D} (S : β → Env → Prop) (f : β → α → β) (hs : ∀ s x ρ, S s ρ → ∃ ρ1 ρ2 fl, g (en x) ρ = some ρ1 ∧ b ρ1 = some (fl, ρ2) ∧ (fl = .nx ∨ fl = .ct) ∧ S (f s x) ρ2) :
    ∀ (xs : List α) (s : β) (ρ : Env), S s ρ → ∃ ρ', forL g b (xs.map en) ρ = some (.nx, ρ') ∧ S (xs.foldl f s) ρ'
  | [], s, ρ, h => ⟨ρ, rfl, h⟩
  | x :: xs, s, ρ, h => by
    obtain ⟨ρ1, ρ2, fl, h1, h2, h3, h4⟩ := hs s x ρ h
    obtain ⟨ρ', h5, h6⟩ := forL_fold S f hs xs (f s x) ρ2 h4
    refine ⟨ρ', ?_, h6⟩
    rw [List.map_cons, forL_cons, h1]
    show ((b ρ1).bind _) = _
    rw [h2]
    rcases h3 with rfl | rfl
    · exact h5
    · exact h5
/-- a while by a word and a measure -/
theorem whileN_inv {h : ST} {b : SS} (W : Env → Prop) (μ : Env → Nat) (Z : Fl → Env → Prop)
    (hs : ∀ ρ, W ρ → ∃ t ρ1, h ρ = some (t, ρ1) ∧ (t = false → Z .nx ρ1) ∧ (t = true → ∃ fl ρ2, b ρ1 = some (fl, ρ2) ∧ (match fl with
      | .nx => W ρ2 ∧ μ ρ2 < μ ρ
      | .ct => W ρ2 ∧ μ ρ2 < μ ρ
      | .bk => Z .nx ρ2
      | .rt r => Z (.rt r) ρ2))) : ∀ (n : Nat) (ρ : Env), μ ρ < n → W ρ → ∃ fl ρ', whileN h b n ρ = some (fl, ρ') ∧ Z fl ρ'
  | 0, ρ, hn, _ => absurd hn (Nat.not_lt_zero _)
  | n + 1, ρ, hn, hW => by
    obtain ⟨t, ρ1, h1, h2, h3⟩ := hs ρ hW
    unfold whileN
    rw [h1]
    cases t with
    | false => exact ⟨.nx, ρ1, rfl, h2 rfl⟩
    | true =>
      obtain ⟨fl, ρ2, h4, h5⟩ := h3 rfl
      show ∃ fl ρ', ((b ρ1).bind _) = some (fl, ρ') ∧ Z fl ρ'
      rw [h4]
      cases fl with
      | nx => exact whileN_inv W μ Z hs n ρ2 (by have := h5.2; omega) h5.1
      | ct => exact whileN_inv W μ Z hs n ρ2 (by have := h5.2; omega) h5.1
      | bk => exact ⟨.nx, ρ2, rfl, h5⟩
      | rt r => exact ⟨.rt r, ρ2, rfl, h5⟩
theorem dWhile_inv {h : ST} {b : SS} (W : Env → Prop) (μ : Env → Nat) (Z : Fl → Env → Prop)
    (hs : ∀ ρ, W ρ → ∃ t ρ1, h ρ = some (t, ρ1) ∧ (t = false → Z .nx ρ1) ∧ (t = true → ∃ fl ρ2, b ρ1 = some (fl, ρ2) ∧ (match fl with
      | .nx => W ρ2 ∧ μ ρ2 < μ ρ
      | .ct => W ρ2 ∧ μ ρ2 < μ ρ
      | .bk => Z .nx ρ2
      | .rt r => Z (.rt r) ρ2))) (ρ : Env) (hn : μ ρ < 100000000) (hW : W ρ) : ∃ fl ρ', dWhile h b ρ = some (fl, ρ') ∧ Z fl ρ' := by
  refine whileN_inv W μ Z hs FUEL ρ ?_ hW
  unfold FUEL
  exact hn
/-- a comprehension whose turns leave the slots as they are -/
theorem lcLoop_pure {g : SG} {c : ST} {f : SE} {vs : List Nat} {α : Type} {en : α → D} {ρ : Env} (p : α → Bool) (v : α → D)
    (hs : ∀ x, ∃ ρ1 ρ2, g (en x) ρ = some ρ1 ∧ c ρ1 = some (p x, ρ2) ∧ (p x = false → wipeE ρ2 vs = ρ) ∧ (p x = true → ∃ r ρ3 ρ4, f ρ2 = some (r, ρ3) ∧ settle r ρ3 = some (v x, ρ4) ∧ wipeE ρ4 vs = ρ)) :
    ∀ (xs : List α) (acc : List D), acc.length + xs.length ≤ 16777216 → lcLoop g c f vs (xs.map en) acc ρ = some (acc ++ (xs.filter p).map v, ρ)
  | [], acc, _ => by
    rw [List.map_nil]
    show some (acc, ρ) = _
    rw [List.filter_nil, List.map_nil, List.append_nil]
  | x :: xs, acc, hl => by
    rw [List.length_cons] at hl
    obtain ⟨ρ1, ρ2, h1, h2, h3, h4⟩ := hs x
    rw [List.map_cons]
    unfold lcLoop
    rw [h1]
    show ((c ρ1).bind _) = _
    rw [h2]
    cases hp : p x with
    | false =>
      show lcLoop g c f vs (xs.map en) acc (wipeE ρ2 vs) = _
      rw [h3 hp, lcLoop_pure p v hs xs acc (by omega), List.filter_cons_of_neg (by rw [hp]; decide)]
    | true =>
      obtain ⟨r, ρ3, ρ4, h5, h6, h7⟩ := h4 hp
      show ((f ρ2).bind _) = _
      rw [h5]
      show ((settle r ρ3).bind _) = _
      rw [h6]
      show (if acc.length < 16777216 then lcLoop g c f vs (xs.map en) (acc ++ [v x]) (wipeE ρ4 vs) else none) = _
      rw [if_pos (by omega), h7, lcLoop_pure p v hs xs (acc ++ [v x]) (by rw [List.length_append, List.length_singleton]; omega), List.filter_cons_of_pos hp, List.map_cons, List.append_assoc]
      rfl
end DL

namespace DL
open PySem PySem.Spec PyProof.Rows L2

/-! ### sorted(t), t a tuple of pairs of ints -/
def rSortedTP (K : PySem.W.Frag) : List V → Hp → VK → Prop := fun vs H Q => ∃ (a : Addr) (xs : List V) (k : V → Int × Int), vs = [V.ref a] ∧ SqT K H a xs ∧ (∀ x ∈ xs, ∃ t, x = V.ref t ∧ H t = some (.tup [.int (k x).1, .int (k x).2])) ∧
  ∀ ys p, SrtO.Srtd (ltP k) ys → SrtO.Stb (ltP k) ys xs → H p = none → Q (.ref p) (upd H p (.lst ys))
theorem cr_sortedTP {X : Cx} : CallR X (.builtin "sorted") (rSortedTP X.K) := by
  intro pins s σ H vs us Q I r h
  obtain ⟨a, xs, k, rfl, hs, hx, q⟩ := h
  obtain ⟨its, rv, hl, hz⟩ := I.tuple hs
  obtain ⟨u, rfl, ru⟩ := vals1 r
  obtain rfl : u = Value.ref a := ru
  obtain ⟨e1, e2⟩ := refs_back rv fun x m => by
    obtain ⟨t, e, _⟩ := hx x m
    exact ⟨t, e⟩
  have hz' : its.length ≤ sizeLine := by rw [← rv.length]; exact hz
  have hpair : ∀ v ∈ its, Srt.IsPair s.heap v (k (backV v)).1 (k (backV v)).2 := fun v hv => by
    obtain ⟨t, rfl⟩ := e2 v hv
    have hm : V.ref t ∈ xs := by rw [e1]; exact List.mem_map.mpr ⟨_, hv, rfl⟩
    obtain ⟨t', e, ht⟩ := hx _ hm
    cases e
    obtain ⟨_, its2, r2, o, ho, hc, n, hd⟩ := I.hok _ _ ht
    obtain ⟨u1, u2, rfl, ri, rj⟩ := vals2 r2
    obtain ⟨t1, rfl⟩ := ri
    obtain ⟨t2, rfl⟩ := rj
    exact ⟨t, o, t1, t2, n, rfl, ho, hc, hd⟩
  obtain ⟨o, ho, hc, n, hd⟩ := id hl
  refine Calls.call_function_entry PyProof.Rows.kind_sorted PyProof.Rows.plain_sorted PyProof.Rows.entry_sorted (PyProof.Rows.args_sorted1 _) ?_
  unfold Builtin.«sorted»
  refine wpAny_bind (m := checkCount "sorted" 1 1 _) (wpAny_pure ?_)
  refine wpAny_bind (wpAny_collect_seq a (.inr rfl) ho hc hd (fun h' hk => ?_) (by rw [List.size_toArray]; exact hz'))
  refine wpAny_bind (wpAny_newList ?_ hz')
  have hoL : (h'.push (seqObj "list" its.toArray 0)).get? h'.objs.size = some (seqObj "list" its.toArray 0) := Heap.get?_push_size _ rfl
  have hkp : ∀ b o, s.heap.get? b = some o → (h'.push (seqObj "list" its.toArray 0)).get? b = some o := fun b o e => Heap.get?_push_of_some _ (hk b o e)
  have I1 : Inv X pins σ H { s with heap := h', toks := s.toks } := I.kept hk
  show wpAny _ _ _ _ _ { s with heap := h'.push (seqObj "list" its.toArray 0) }
  refine wpAny_bind (wpAny_holding (wpAny_call_entry PyProof.Rows.slot_list_sort ⟨_, hoL, rfl⟩ PyProof.Rows.entry_list_sort
    (SrtO.list_sort_ord (s := { s with heap := h'.push (seqObj "list" its.toArray 0) }) (SrtO.swo_lex fun u => k (backV u)) hoL hz' (fun h2 => ?_) fun out h1 h2 => ⟨_, rfl, ?_⟩) (PyProof.Rows.args_list_sort _)))
  · refine SrtO.pairs_sortableO (s := { s with heap := h'.push (seqObj "list" its.toArray 0) }) (by omega) (fun v hm => (hpair v hm).keeps fun b o e _ => hkp b o e) fun o e => ?_
    have e' : some o = some (seqObj "list" its.toArray 0) := e.symm.trans hoL
    cases e'
    intro c
    exact absurd (Value.type.inj c) (by decide)
  · have h3 : ∀ u ∈ out, ∃ a, u = Value.ref a := fun u hu => e2 u (h2.perm.mem_iff.mp hu)
    have hb : SrtO.Stb (ltP k) (out.map backV) xs := by
      rw [e1]
      exact SrtO.Stb.map (ltP_swo k) backV h2
    obtain ⟨e', he'⟩ := PyProof.Rows.sortedHeap_at (vs := its) (out := out.toArray) hoL
    have hlen : (out.map backV).length ≤ sizeLine := by
      rw [hb.len]
      exact hz
    refine wpAny_pure ⟨_, rfl, .ref h'.objs.size, upd H h'.objs.size (.lst (out.map backV)), I1.laid (t' := s.toks) (fun b u e => ?_) (Nat.le_refl _)
      (show ObjOk X.prog X.w _ _ _ (.lst (out.map backV)) from ⟨hlen, out, e', vals_back h3, he'⟩), rfl, q _ _ (SrtO.srtd_map h1) hb (I1.hok.fresh (Nat.le_refl _))⟩
    have hb : b < h'.objs.size := Heap.lt_size e
    rw [PyProof.Rows.sortedHeap_old (Nat.ne_of_lt hb) (by rw [size_push']; exact Nat.lt_succ_of_lt hb)]
    exact Heap.get?_push_of_some _ e
def rSortedB (K : PySem.W.Frag) : List V → Hp → VK → Prop := fun vs H Q => rSortedA K vs H Q ∨ rSortedTP K vs H Q
theorem call_sortedB {X : Cx} (hc : X.calm = true) : CallR X (.builtin "sorted") (rSortedB X.K) := CallR.or (call_sortedA hc) cr_sortedTP
def gSortedB : List D → Option ORes
  | [.tuple ds] => (prsD ds).bind fun ps => some (.ls ((sortP ps).map prD))
  | ds => gSorted ds
theorem ok_sortedB {K : PySem.W.Frag} : CallOk (rSortedB K) gSortedB := fun B H vs ds o Q e hv hg hp => by
  unfold gSortedB at hg
  split at hg
  · obtain ⟨ps, h1, hg⟩ := bind_some' hg
    cases hg
    obtain ⟨v, rfl, hv1⟩ := vws1 hv
    obtain ⟨a, xs, rfl, h2, h3⟩ := vw_tup hv1
    rw [prsD_inv h1] at h3
    obtain ⟨k1, k2⟩ := keyP_all e h3
    refine .inr ⟨a, xs, keyP H, rfl, SqT.of (e _ _ h2), fun x hx => (k2 x hx).2, fun ys p q1 q2 hp' => hp p ys hp' ?_⟩
    have hperm : (ys.map (keyP H)).Perm ps := by
      have := q2.perm.map (keyP H)
      rw [k1] at this
      exact this
    have hs : SortedP (ys.map (keyP H)) := List.pairwise_map.mpr (q1.imp fun {x y} h => by
      show leP (keyP H x) (keyP H y) = true
      unfold leP
      have h : SrtO.lexB (keyP H y) (keyP H x) = false := h
      rw [h]
      rfl)
    rw [← sortP_uniq hperm hs]
    exact rps_of_all fun v hv => (k2 v (q2.perm.mem_iff.mp hv)).1
  · exact .inl (ok_sorted B H vs _ o Q e hv hg hp)
theorem prsD_prs (ps : List (Int × Int)) : prsD (ps.map prD) = some ps := prsD_map ps
theorem gSortedB_tuple {ps : List (Int × Int)} : gSortedB [.tuple (ps.map prD)] = some (.ls ((sortP ps).map prD)) := by
  show ((prsD (ps.map prD)).bind _) = _
  rw [prsD_map]
  rfl
end DL

namespace DL
open PySem PySem.Spec PyProof.Rows L2
section
variable {g : SG} {b : SS} {d : D} {ds : List D} {ρ ρ' : Env} {r : R}
/-- one argument, kept as it is: a dict just made, too -/
def aLast (f : SE) : SA := fun ρ => (f ρ).bind fun p => some ([p.1], p.2)
theorem aLast_ap {f : SE} {ρ : Env} : aLast f ρ = (f ρ).bind fun p => some ([p.1], p.2) := rfl
theorem da_last {X : Cx} {e : Expr} {f : SE} (hf : DE X e f) (hs : starEach [e] X.env = (false, eval e X.env) :: starEach [] X.env := by rfl) : DA X [e] (aLast f) := ⟨PA.imp (pa_cons hf.pe pa_nil hs) fun σ H Q h => by
  obtain ⟨m, B, ρ, rs, ρ', E, e, k⟩ := h
  obtain ⟨p, h1, e⟩ := bind_some' e
  cases e
  exact ⟨m, B, ρ, p.1, p.2, E, h1, fun x H1 B1 g1 E1 R1 => k [x] H1 B1 g1 E1 ⟨x, [], rfl, R1, rfl⟩⟩⟩
/-- one turn of a for -/
def forS (g : SG) (b : SS) (d : D) (ρ : Env) : Option (Fl × Env) := (g d ρ).bind b
theorem forL_nx (h : forS g b d ρ = some (.nx, ρ')) : forL g b (d :: ds) ρ = forL g b ds ρ' := by
  obtain ⟨ρ1, h1, h2⟩ := bind_some' h
  rw [forL_cons, h1]
  show ((b ρ1).bind _) = _
  rw [h2]
  rfl
theorem forL_ct (h : forS g b d ρ = some (.ct, ρ')) : forL g b (d :: ds) ρ = forL g b ds ρ' := by
  obtain ⟨ρ1, h1, h2⟩ := bind_some' h
  rw [forL_cons, h1]
  show ((b ρ1).bind _) = _
  rw [h2]
  rfl
theorem forL_bk (h : forS g b d ρ = some (.bk, ρ')) : forL g b (d :: ds) ρ = some (.nx, ρ') := by
  obtain ⟨ρ1, h1, h2⟩ := bind_some' h
  rw [forL_cons, h1]
  show ((b ρ1).bind _) = _
  rw [h2]
  rfl
theorem forL_rt (h : forS g b d ρ = some (.rt r, ρ')) : forL g b (d :: ds) ρ = some (.rt r, ρ') := by
  obtain ⟨ρ1, h1, h2⟩ := bind_some' h
  rw [forL_cons, h1]
  show ((b ρ1).bind _) = _
  rw [h2]
  rfl
end
theorem forS_ap {g : SG} {b : SS} {d : D} {ρ : Env} : forS g b d ρ = (g d ρ).bind b := rfl
theorem callF_ap {b : SS} {n : Nat} {args : List Sl} : callF b n args = (b (args.map some ++ List.replicate (n - args.length) none)).bind fun q => match q.1 with
  | .rt r => (retR r q.2).bind fun w => some (w, outs args q.2)
  | .nx => some (.val .none, outs args q.2)
  | _ => none := rfl
theorem retR_val {d : D} {ρ : Env} : retR (.val d) ρ = some (.val d) := rfl
theorem retR_new {s : Sl} {ρ : Env} : retR (.new s) ρ = some (.new s) := rfl
theorem retR_at {i : Nat} {ρ : Env} : retR (.at i) ρ = match ρ[i]? with
    | some (some (.val d)) => some (.val d)
    | some (some (.own false ds)) => some (.new (.own false ds))
    | some (some (.dic false kvs)) => some (.new (.dic false kvs))
    | _ => none := rfl
theorem outs_nil {ρ : Env} : outs [] ρ = [] := rfl
theorem outs_val {d : D} {ss : List Sl} {ρ : Env} : outs (.val d :: ss) ρ = none :: outs ss ρ.tail := rfl
theorem outs_scr {ns : List Int} {ss : List Sl} {ρ : Env} : outs (.scr ns :: ss) ρ = outSl (.scr ns) ρ.head?.join :: outs ss ρ.tail := rfl
theorem outs_own {p : Bool} {ds es : List D} {q : Bool} {ss : List Sl} {ρ : Env} : outs (.own p ds :: ss) (some (.own q es) :: ρ) = outSl (.own p ds) (some (.own q es)) :: outs ss ρ := rfl
theorem gSorted_pairs {p : Int × Int} {ps : List (Int × Int)} : gSortedB [.list ((p :: ps).map prD)] = some (.ls ((sortP (p :: ps)).map prD)) := by
  show (match intsD ((p :: ps).map prD) with
    | some is => some (ORes.ls ((sortI is).map PyData.int))
    | none => (prsD ((p :: ps).map prD)).bind fun ps => some (.ls ((sortP ps).map prD))) = _
  have e : intsD ((p :: ps).map prD) = none := rfl
  rw [e, prsD_map]
  rfl
theorem gSortedB_pairs {ps : List (Int × Int)} : gSortedB [.list (ps.map prD)] = some (.ls ((sortP ps).map prD)) := by
  cases ps with
  | nil => rfl
  | cons p ps => exact gSorted_pairs
theorem gSum_ints {is : List Int} : gSum [.list (is.map PyData.int)] = some (.vl (.int is.sum)) := by
  show (intsD _).bind _ = _
  rw [intsD_map]
  rfl
theorem gAll_bls {is : List Bool} : gAll [.list (is.map PyData.bool)] = some (.vl (.bool (is.all id))) := by
  show (blsD _).bind _ = _
  rw [blsD_map]
  rfl
theorem gAny_bls {is : List Bool} : gAny [.list (is.map PyData.bool)] = some (.vl (.bool (is.any id))) := by
  show (blsD _).bind _ = _
  rw [blsD_map]
  rfl
theorem wipeE_nil {ρ : Env} : wipeE ρ [] = ρ := rfl
theorem wipeE_cons {ρ : Env} {v : Nat} {vs : List Nat} : wipeE ρ (v :: vs) = (wipeE ρ vs).set v none := rfl
theorem restE_nil {ρ0 ρ : Env} : restE ρ0 [] ρ = ρ := rfl
theorem restE_cons {ρ0 ρ : Env} {v : Nat} {vs : List Nat} : restE ρ0 (v :: vs) ρ = (restE ρ0 vs ρ).set v (match ρ0[v]? with
    | some (some (.val d)) => some (.val d)
    | _ => none) := rfl
theorem putBack_at {i : Nat} {rs : List R} {os ρ : Env} : putBack (.at i :: rs) os ρ = putBack rs os.tail (match ρ[i]? with
    | some (some (.own p _)) => ρ.set i (match os.head? with
      | some (some (.own _ ds)) => some (.own p ds)
      | _ => none)
    | some (some (.dic p _)) => ρ.set i (match os.head? with
      | some (some (.dic _ kvs)) => some (.dic p kvs)
      | _ => none)
    | _ => ρ) := rfl
theorem nodup_one {i : Nat} : [i].Nodup ↔ True := by simp
theorem nodup_two {i j : Nat} : [i, j].Nodup ↔ i ≠ j := by simp
theorem outs_ownA {p : Bool} {ds : List D} {ss : List Sl} {ρ : Env} : outs (.own p ds :: ss) ρ = outSl (.own p ds) ρ.head?.join :: outs ss ρ.tail := rfl
theorem outSl_own {p : Bool} {ds es : List D} : outSl (.own p ds) (some (.own true es)) = some (.own true es) := rfl
theorem outSl_scr {ns : List Int} {o : Option Sl} : outSl (.scr ns) o = none := by cases o <;> rfl
theorem gApp_if {a : List D} {d : D} : gApp a [d] = if a.length < 16777216 then some (a ++ [d], .none) else none := rfl
theorem ixN_last {n : Nat} : ixN (n + 1) (-1) = some n := by
  unfold ixN
  rw [if_neg (by decide), if_pos (by omega)]
  congr 1
  omega
theorem ne_snoc (a : List D) (x : D) : (a ++ [x]).isEmpty = false := by cases a <;> rfl
theorem set_snoc (a : List D) (x y : D) : (a ++ [x]).set a.length y = a ++ [y] := by
  induction a with
  | nil => rfl
  | cons z a ih => rw [List.cons_append, List.length_cons, List.set_cons_succ, ih]; rfl
/-- a while by a state beside the slots -/
theorem whileN_rel {h : ST} {b : SS} {σ : Type} (S : σ → Env → Prop) (μ : σ → Nat) (Z : Fl → Env → Prop)
    (hs : ∀ s ρ, S s ρ → ∃ t ρ1, h ρ = some (t, ρ1) ∧ (t = false → Z .nx ρ1) ∧ (t = true → ∃ fl ρ2, b ρ1 = some (fl, ρ2) ∧ (match fl with
      | .nx => ∃ s', S s' ρ2 ∧ μ s' < μ s
      | .ct => ∃ s', S s' ρ2 ∧ μ s' < μ s
      | .bk => Z .nx ρ2
      | .rt r => Z (.rt r) ρ2))) : ∀ (n : Nat) (s : σ) (ρ : Env), μ s < n → S s ρ → ∃ fl ρ', whileN h b n ρ = some (fl, ρ') ∧ Z fl ρ'
  | 0, s, ρ, hn, _ => absurd hn (Nat.not_lt_zero _)
  | n + 1, s, ρ, hn, hW => by
    obtain ⟨t, ρ1, h1, h2, h3⟩ := hs s ρ hW
    unfold whileN
    rw [h1]
    cases t with
    | false => exact ⟨.nx, ρ1, rfl, h2 rfl⟩
    | true =>
      obtain ⟨fl, ρ2, h4, h5⟩ := h3 rfl
      show ∃ fl ρ', ((b ρ1).bind _) = some (fl, ρ') ∧ Z fl ρ'
      rw [h4]
      cases fl with
      | nx =>
        obtain ⟨s', h6, h7⟩ := h5
        exact whileN_rel S μ Z hs n s' ρ2 (by omega) h6
      | ct =>
        obtain ⟨s', h6, h7⟩ := h5
        exact whileN_rel S μ Z hs n s' ρ2 (by omega) h6
      | bk => exact ⟨.nx, ρ2, rfl, h5⟩
      | rt r => exact ⟨.rt r, ρ2, rfl, h5⟩
theorem dWhile_rel {h : ST} {b : SS} {σ : Type} (S : σ → Env → Prop) (μ : σ → Nat) (Z : Fl → Env → Prop)
    (hs : ∀ s ρ, S s ρ → ∃ t ρ1, h ρ = some (t, ρ1) ∧ (t = false → Z .nx ρ1) ∧ (t = true → ∃ fl ρ2, b ρ1 = some (fl, ρ2) ∧ (match fl with
      | .nx => ∃ s', S s' ρ2 ∧ μ s' < μ s
      | .ct => ∃ s', S s' ρ2 ∧ μ s' < μ s
      | .bk => Z .nx ρ2
      | .rt r => Z (.rt r) ρ2))) (s : σ) (ρ : Env) (hn : μ s < 100000000) (hW : S s ρ) : ∃ fl ρ', dWhile h b ρ = some (fl, ρ') ∧ Z fl ρ' := by
  refine whileN_rel S μ Z hs FUEL s ρ ?_ hW
  unfold FUEL
  exact hn
theorem lcLoop_none {g : SG} {c : ST} {f : SE} {vs : List Nat} {ρ : Env} : ∀ (ds acc : List D), (∀ d ∈ ds, ∃ ρ1 ρ2, g d ρ = some ρ1 ∧ c ρ1 = some (false, ρ2) ∧ wipeE ρ2 vs = ρ) → lcLoop g c f vs ds acc ρ = some (acc, ρ)
  | [], acc, _ => rfl
  | d :: ds, acc, h => by
    obtain ⟨ρ1, ρ2, h1, h2, h3⟩ := h d List.mem_cons_self
    unfold lcLoop
    rw [h1]
    show ((c ρ1).bind _) = _
    rw [h2]
    show lcLoop g c f vs ds acc (wipeE ρ2 vs) = _
    rw [h3]
    exact lcLoop_none ds acc fun x hx => h x (List.mem_cons_of_mem _ hx)
/-- one turn, then the end -/
theorem dWhile_go {h : ST} {b : SS} {ρ ρ1 ρ2 ρ3 : Env} (h1 : h ρ = some (true, ρ1)) (h2 : b ρ1 = some (.nx, ρ2)) (h3 : h ρ2 = some (false, ρ3)) : dWhile h b ρ = some (.nx, ρ3) := by
  have e : FUEL = 99999998 + 1 + 1 := by unfold FUEL; rfl
  unfold dWhile
  rw [e]
  unfold whileN
  rw [h1]
  show ((b ρ1).bind _) = _
  rw [h2]
  show whileN h b (99999998 + 1) ρ2 = _
  unfold whileN
  rw [h3]
  rfl
theorem obind_congr {α β : Type} {x y : Option α} {f : α → Option β} (h : x = y) : x.bind f = y.bind f := by rw [h]
theorem dSeq_nx {s t : SS} {ρ ρ' : Env} (h : s ρ = some (.nx, ρ')) : dSeq s t ρ = t ρ' := by
  rw [dSeq_ap, h]
  rfl
end DL

namespace K80
open PySem PySem.Spec PyProof.Rows L2 DL
def topS (i : Nat) : Stmt := PySem.Challenge.pw_foreverdays_k80_whole_spells_and_spans.main.body.getD i (.Pass ⟨0, 0, 0, 0⟩)
abbrev s__law_draws : Stmt := topS 38
abbrev N__law_draws : List Str := ["script", "count", "cells", "found", "mixed", "k", "j", "cell", "again"]
theorem sc__law_draws : FnScope N__law_draws ["script", "count"] (defScope s__law_draws) := ⟨rfl, rfl, rfl, by decide +kernel, rfl, by decide +kernel, by decide +kernel⟩
abbrev s_check_bookings : Stmt := topS 12
abbrev N_check_bookings : List Str := ["bookings", "begin", "end"]
theorem sc_check_bookings : FnScope N_check_bookings ["bookings"] (defScope s_check_bookings) := ⟨rfl, rfl, rfl, by decide +kernel, rfl, by decide +kernel, by decide +kernel⟩
abbrev s_free_spells : Stmt := topS 13
abbrev N_free_spells : List Str := ["bookings", "start", "end", "found", "now", "begin", "stop", "spell"]
theorem sc_free_spells : FnScope N_free_spells ["bookings", "start", "end"] (defScope s_free_spells) := ⟨rfl, rfl, rfl, by decide +kernel, rfl, by decide +kernel, by decide +kernel⟩
abbrev s_length : Stmt := topS 5
abbrev N_length : List Str := ["spells", "start", "end"]
theorem sc_length : FnScope N_length ["spells"] (defScope s_length) := ⟨rfl, rfl, rfl, by decide +kernel, rfl, by decide +kernel, by decide +kernel⟩
abbrev s_first_gap : Stmt := topS 14
abbrev N_first_gap : List Str := ["bookings", "tick", "length", "now", "begin", "end"]
theorem sc_first_gap : FnScope N_first_gap ["bookings", "tick", "length"] (defScope s_first_gap) := ⟨rfl, rfl, rfl, by decide +kernel, rfl, by decide +kernel, by decide +kernel⟩
abbrev s_check_zone : Stmt := topS 19
abbrev N_check_zone : List Str := ["zone", "offset", "changes", "number", "change", "before", "after"]
theorem sc_check_zone : FnScope N_check_zone ["zone"] (defScope s_check_zone) := ⟨rfl, rfl, rfl, by decide +kernel, rfl, by decide +kernel, by decide +kernel⟩
abbrev s_check_persons : Stmt := topS 33
abbrev N_check_persons : List Str := ["persons", "start", "end", "zone", "_", "bookings"]
theorem sc_check_persons : FnScope N_check_persons ["persons", "start", "end"] (defScope s_check_persons) := ⟨rfl, rfl, rfl, by decide +kernel, rfl, by decide +kernel, by decide +kernel⟩
abbrev s_joined : Stmt := topS 1
abbrev N_joined : List Str := ["pairs", "spells", "start", "end"]
theorem sc_joined : FnScope N_joined ["pairs"] (defScope s_joined) := ⟨rfl, rfl, rfl, by decide +kernel, rfl, by decide +kernel, by decide +kernel⟩
abbrev s_both : Stmt := topS 2
abbrev N_both : List Str := ["first", "second", "found", "left", "right", "start", "end"]
theorem sc_both : FnScope N_both ["first", "second"] (defScope s_both) := ⟨rfl, rfl, rfl, by decide +kernel, rfl, by decide +kernel, by decide +kernel⟩
abbrev s_is_open_minute : Stmt := topS 26
abbrev N_is_open_minute : List Str := ["week", "minute", "begin", "end"]
theorem sc_is_open_minute : FnScope N_is_open_minute ["week", "minute"] (defScope s_is_open_minute) := ⟨rfl, rfl, rfl, by decide +kernel, rfl, by decide +kernel, by decide +kernel⟩
abbrev s_is_open : Stmt := topS 27
abbrev N_is_open : List Str := ["week", "closed", "time"]
theorem sc_is_open : FnScope N_is_open ["week", "closed", "time"] (defScope s_is_open) := ⟨rfl, rfl, rfl, by decide +kernel, rfl, by decide +kernel, by decide +kernel⟩
abbrev s_offset_at : Stmt := topS 20
abbrev N_offset_at : List Str := ["zone", "tick", "found", "since", "offset"]
theorem sc_offset_at : FnScope N_offset_at ["zone", "tick"] (defScope s_offset_at) := ⟨rfl, rfl, rfl, by decide +kernel, rfl, by decide +kernel, by decide +kernel⟩
abbrev s_local : Stmt := topS 21
abbrev N_local : List Str := ["zone", "tick"]
theorem sc_local : FnScope N_local ["zone", "tick"] (defScope s_local) := ⟨rfl, rfl, rfl, by decide +kernel, rfl, by decide +kernel, by decide +kernel⟩
abbrev s_next_edge : Stmt := topS 28
abbrev N_next_edge : List Str := ["week", "time", "begin", "edges", "pair", "minute"]
theorem sc_next_edge : FnScope N_next_edge ["week", "time"] (defScope s_next_edge) := ⟨rfl, rfl, rfl, by decide +kernel, rfl, by decide +kernel, by decide +kernel⟩
abbrev s_next_turn : Stmt := topS 29
abbrev N_next_turn : List Str := ["week", "closed", "zone", "tick", "before", "t", "time", "steps", "since", "_"]
theorem sc_next_turn : FnScope N_next_turn ["week", "closed", "zone", "tick"] (defScope s_next_turn) := ⟨rfl, rfl, rfl, by decide +kernel, rfl, by decide +kernel, by decide +kernel⟩
abbrev s_open_spells : Stmt := topS 34
abbrev N_open_spells : List Str := ["person", "start", "end", "zone", "week", "closed", "_", "found", "tick", "turn", "behind"]
theorem sc_open_spells : FnScope N_open_spells ["person", "start", "end"] (defScope s_open_spells) := ⟨rfl, rfl, rfl, by decide +kernel, rfl, by decide +kernel, by decide +kernel⟩
abbrev s_common_times : Stmt := topS 35
abbrev N_common_times : List Str := ["persons", "start", "end", "found", "person", "free"]
theorem sc_common_times : FnScope N_common_times ["persons", "start", "end"] (defScope s_common_times) := ⟨rfl, rfl, rfl, by decide +kernel, rfl, by decide +kernel, by decide +kernel⟩
abbrev s_first_common : Stmt := topS 36
abbrev N_first_common : List Str := ["persons", "start", "end", "length", "begin", "last"]
theorem sc_first_common : FnScope N_first_common ["persons", "start", "end", "length"] (defScope s_first_common) := ⟨rfl, rfl, rfl, by decide +kernel, rfl, by decide +kernel, by decide +kernel⟩
abbrev s__law_take : Stmt := topS 39
abbrev N__law_take : List Str := ["draws", "limit"]
theorem sc__law_take : FnScope N__law_take ["draws", "limit"] (defScope s__law_take) := ⟨rfl, rfl, rfl, by decide +kernel, rfl, by decide +kernel, by decide +kernel⟩
abbrev s__law_spells : Stmt := topS 41
abbrev N__law_spells : List Str := ["draws", "found", "at", "k", "end"]
theorem sc__law_spells : FnScope N__law_spells ["draws"] (defScope s__law_spells) := ⟨rfl, rfl, rfl, by decide +kernel, rfl, by decide +kernel, by decide +kernel⟩
abbrev s_rest : Stmt := topS 4
abbrev N_rest : List Str := ["spells", "start", "end", "found", "behind", "first", "last", "spell"]
theorem sc_rest : FnScope N_rest ["spells", "start", "end"] (defScope s_rest) := ⟨rfl, rfl, rfl, by decide +kernel, rfl, by decide +kernel, by decide +kernel⟩
abbrev s_either : Stmt := topS 3
abbrev N_either : List Str := ["first", "second"]
theorem sc_either : FnScope N_either ["first", "second"] (defScope s_either) := ⟨rfl, rfl, rfl, by decide +kernel, rfl, by decide +kernel, by decide +kernel⟩
abbrev s__law_ticks : Stmt := topS 42
abbrev N__law_ticks : List Str := ["spells", "found", "begin", "end"]
theorem sc__law_ticks : FnScope N__law_ticks ["spells"] (defScope s__law_ticks) := ⟨rfl, rfl, rfl, by decide +kernel, rfl, by decide +kernel, by decide +kernel⟩
abbrev s__law_is_right : Stmt := topS 43
abbrev N__law_is_right : List Str := ["spells", "k", "begin", "end"]
theorem sc__law_is_right : FnScope N__law_is_right ["spells"] (defScope s__law_is_right) := ⟨rfl, rfl, rfl, by decide +kernel, rfl, by decide +kernel, by decide +kernel⟩
abbrev s_law : Stmt := topS 44
abbrev N_law : List Str := ["script", "draws", "turn", "told", "span", "free", "gap", "rows", "persons", "first", "a", "b", "c", "start", "end", "one", "two", "x", "y", "bookings", "more", "size", "tick", "zone", "week", "p", "q"]
theorem sc_law : FnScope N_law ["script"] (defScope s_law) := ⟨rfl, rfl, rfl, by decide +kernel, rfl, by decide +kernel, by decide +kernel⟩
/-- what the top leaves -/
structure Top (K : PySem.W.Frag) (mg : Str → Option Value) where
  a__law_draws : Addr
  d__law_draws : FuncData
  F__law_draws : Fun K "_law_draws" "_law_draws" s__law_draws a__law_draws d__law_draws
  g__law_draws : mg "_law_draws" = some (.ref a__law_draws)
  B__law_draws : Binds K d__law_draws ["script", "count"] []
  a_check_bookings : Addr
  d_check_bookings : FuncData
  F_check_bookings : Fun K "check_bookings" "check_bookings" s_check_bookings a_check_bookings d_check_bookings
  g_check_bookings : mg "check_bookings" = some (.ref a_check_bookings)
  B_check_bookings : Binds K d_check_bookings ["bookings"] []
  a_free_spells : Addr
  d_free_spells : FuncData
  F_free_spells : Fun K "free_spells" "free_spells" s_free_spells a_free_spells d_free_spells
  g_free_spells : mg "free_spells" = some (.ref a_free_spells)
  B_free_spells : Binds K d_free_spells ["bookings", "start", "end"] []
  a_length : Addr
  d_length : FuncData
  F_length : Fun K "length" "length" s_length a_length d_length
  g_length : mg "length" = some (.ref a_length)
  B_length : Binds K d_length ["spells"] []
  a_first_gap : Addr
  d_first_gap : FuncData
  F_first_gap : Fun K "first_gap" "first_gap" s_first_gap a_first_gap d_first_gap
  g_first_gap : mg "first_gap" = some (.ref a_first_gap)
  B_first_gap : Binds K d_first_gap ["bookings", "tick", "length"] []
  a_check_zone : Addr
  d_check_zone : FuncData
  F_check_zone : Fun K "check_zone" "check_zone" s_check_zone a_check_zone d_check_zone
  g_check_zone : mg "check_zone" = some (.ref a_check_zone)
  B_check_zone : Binds K d_check_zone ["zone"] []
  a_check_persons : Addr
  d_check_persons : FuncData
  F_check_persons : Fun K "check_persons" "check_persons" s_check_persons a_check_persons d_check_persons
  g_check_persons : mg "check_persons" = some (.ref a_check_persons)
  B_check_persons : Binds K d_check_persons ["persons", "start", "end"] []
  a_joined : Addr
  d_joined : FuncData
  F_joined : Fun K "joined" "joined" s_joined a_joined d_joined
  g_joined : mg "joined" = some (.ref a_joined)
  B_joined : Binds K d_joined ["pairs"] []
  a_both : Addr
  d_both : FuncData
  F_both : Fun K "both" "both" s_both a_both d_both
  g_both : mg "both" = some (.ref a_both)
  B_both : Binds K d_both ["first", "second"] []
  a_is_open_minute : Addr
  d_is_open_minute : FuncData
  F_is_open_minute : Fun K "is_open_minute" "is_open_minute" s_is_open_minute a_is_open_minute d_is_open_minute
  g_is_open_minute : mg "is_open_minute" = some (.ref a_is_open_minute)
  B_is_open_minute : Binds K d_is_open_minute ["week", "minute"] []
  a_is_open : Addr
  d_is_open : FuncData
  F_is_open : Fun K "is_open" "is_open" s_is_open a_is_open d_is_open
  g_is_open : mg "is_open" = some (.ref a_is_open)
  B_is_open : Binds K d_is_open ["week", "closed", "time"] []
  a_offset_at : Addr
  d_offset_at : FuncData
  F_offset_at : Fun K "offset_at" "offset_at" s_offset_at a_offset_at d_offset_at
  g_offset_at : mg "offset_at" = some (.ref a_offset_at)
  B_offset_at : Binds K d_offset_at ["zone", "tick"] []
  a_local : Addr
  d_local : FuncData
  F_local : Fun K "local" "local" s_local a_local d_local
  g_local : mg "local" = some (.ref a_local)
  B_local : Binds K d_local ["zone", "tick"] []
  a_next_edge : Addr
  d_next_edge : FuncData
  F_next_edge : Fun K "next_edge" "next_edge" s_next_edge a_next_edge d_next_edge
  g_next_edge : mg "next_edge" = some (.ref a_next_edge)
  B_next_edge : Binds K d_next_edge ["week", "time"] []
  a_next_turn : Addr
  d_next_turn : FuncData
  F_next_turn : Fun K "next_turn" "next_turn" s_next_turn a_next_turn d_next_turn
  g_next_turn : mg "next_turn" = some (.ref a_next_turn)
  B_next_turn : Binds K d_next_turn ["week", "closed", "zone", "tick"] []
  a_open_spells : Addr
  d_open_spells : FuncData
  F_open_spells : Fun K "open_spells" "open_spells" s_open_spells a_open_spells d_open_spells
  g_open_spells : mg "open_spells" = some (.ref a_open_spells)
  B_open_spells : Binds K d_open_spells ["person", "start", "end"] []
  a_common_times : Addr
  d_common_times : FuncData
  F_common_times : Fun K "common_times" "common_times" s_common_times a_common_times d_common_times
  g_common_times : mg "common_times" = some (.ref a_common_times)
  B_common_times : Binds K d_common_times ["persons", "start", "end"] []
  a_first_common : Addr
  d_first_common : FuncData
  F_first_common : Fun K "first_common" "first_common" s_first_common a_first_common d_first_common
  g_first_common : mg "first_common" = some (.ref a_first_common)
  B_first_common : Binds K d_first_common ["persons", "start", "end", "length"] []
  a__law_take : Addr
  d__law_take : FuncData
  F__law_take : Fun K "_law_take" "_law_take" s__law_take a__law_take d__law_take
  g__law_take : mg "_law_take" = some (.ref a__law_take)
  B__law_take : Binds K d__law_take ["draws", "limit"] []
  a__law_spells : Addr
  d__law_spells : FuncData
  F__law_spells : Fun K "_law_spells" "_law_spells" s__law_spells a__law_spells d__law_spells
  g__law_spells : mg "_law_spells" = some (.ref a__law_spells)
  B__law_spells : Binds K d__law_spells ["draws"] []
  a_rest : Addr
  d_rest : FuncData
  F_rest : Fun K "rest" "rest" s_rest a_rest d_rest
  g_rest : mg "rest" = some (.ref a_rest)
  B_rest : Binds K d_rest ["spells", "start", "end"] []
  a_either : Addr
  d_either : FuncData
  F_either : Fun K "either" "either" s_either a_either d_either
  g_either : mg "either" = some (.ref a_either)
  B_either : Binds K d_either ["first", "second"] []
  a__law_ticks : Addr
  d__law_ticks : FuncData
  F__law_ticks : Fun K "_law_ticks" "_law_ticks" s__law_ticks a__law_ticks d__law_ticks
  g__law_ticks : mg "_law_ticks" = some (.ref a__law_ticks)
  B__law_ticks : Binds K d__law_ticks ["spells"] []
  a__law_is_right : Addr
  d__law_is_right : FuncData
  F__law_is_right : Fun K "_law_is_right" "_law_is_right" s__law_is_right a__law_is_right d__law_is_right
  g__law_is_right : mg "_law_is_right" = some (.ref a__law_is_right)
  B__law_is_right : Binds K d__law_is_right ["spells"] []
  a_law : Addr
  d_law : FuncData
  F_law : Fun K "law" "law" s_law a_law d_law
  g_law : mg "law" = some (.ref a_law)
  B_law : Binds K d_law ["script"] []
  b_list : mg "list" = none
  b_len : mg "len" = none
  b_range : mg "range" = none
  b_int : mg "int" = none
  b_all : mg "all" = none
  b_sorted : mg "sorted" = none
  b_min : mg "min" = none
  b_max : mg "max" = none
  b_sum : mg "sum" = none
  b_abs : mg "abs" = none
  b_zip : mg "zip" = none
  b_any : mg "any" = none
  b_dict : mg "dict" = none
  b_tuple : mg "tuple" = none
  c_MOST : ∃ t, mg "MOST" = some (.int 200 t)
  c_MOST_CHANGES : ∃ t, mg "MOST_CHANGES" = some (.int 400 t)
  c_FARTHEST_zones : ∃ t, mg "FARTHEST_zones" = some (.int 1500 t)
  c_MOST_PERSONS : ∃ t, mg "MOST_PERSONS" = some (.int 8 t)
  c_LONGEST_SPAN : ∃ t, mg "LONGEST_SPAN" = some (.int 20160 t)
  c_DAY : ∃ t, mg "DAY" = some (.int 1440 t)
  c_FIRST_MONDAY : ∃ t, mg "FIRST_MONDAY" = some (.int 1440 t)
  c_WEEK : ∃ t, mg "WEEK" = some (.int 10080 t)
  c_FARTHEST_hours : ∃ t, mg "FARTHEST_hours" = some (.int 20000 t)
def g__law_draws_1 : SG := (gN 5)
def l__law_draws_1 : SS := (dSeq (dAsg 6 (dOp gMod (dVar 5) (dCB gLen (aCons (dVar 2) aNil))))
  (dSeq (dAsg 7 (dOp gIx (dVar 2) (dVar 6)))
  (dSeq (dAsg 4 (dOp gMod (dCB gInt (aCons (dOp gAdd (dOp gAdd (dOp gAdd (dOp gMul (dVar 4) (dC (.int 48271))) (dOp gMul (dOp gMod (dCB gInt (aCons (dVar 7) aNil)) (dC (.int 1000003))) (dC (.int 69621)))) (dOp gMul (dVar 5) (dC (.int 7919)))) (dC (.int 11))) aNil)) (dC (.int 2147483647))))
  (dSeq (dAsg 8 (dOp gMod (dCB gInt (aCons (dOp gAdd (dOp gAdd (dOp gMul (dVar 4) (dVar 4)) (dOp gMul (dC (.int 31)) (dVar 4))) (dVar 5)) aNil)) (dC (.int 1000003))))
  (dIfS (dTest (dOp gGe (dVar 7) (dOp gPow (dC (.int 10)) (dC (.int 18))))) (dSeq (dExpr (dMut 3 gApp (aVal (dOp gMod (dCB gInt (aCons (dVar 7) aNil)) (dC (.int 1000))) aNil)))
  (dSetI 2 (dVar 6) (dOp gDiv (dVar 7) (dC (.int 1000))))) (dExpr (dMut 3 gApp (aVal (dOp gMod (dCB gInt (aCons (dVar 8) aNil)) (dC (.int 1000))) aNil))))))))
def b__law_draws : SS :=
  (dSeq (dAsg 2 (dListScr 0))
  (dSeq (dIfS (dTest (dOp gEq (dCB gLen (aCons (dVar 2) aNil)) (dC (.int 0)))) (dAsg 2 (dLst (aVal (dC (.int 7)) aNil))) dSkip)
  (dSeq (dAsg 3 (dLst aNil))
  (dSeq (dAsg 4 (dC (.int 12345)))
  (dSeq (dFor (iRng1' (aVal (dVar 1) aNil)) g__law_draws_1 l__law_draws_1)
  (dSeq (dExpr (dMut 3 gRev aNil))
  (dRet (dVar 3))))))))
def g_check_bookings_1 : SG := (gT 2 (gsCons (gN 1) (gsCons (gN 2) gsNil)))
def e_check_bookings_1 : SE := (dOp gLt (dVar 1) (dVar 2))
def b_check_bookings : SS :=
  (dSeq (dIfS (dTest (dOp gGt (dCB gLen (aCons (dVar 0) aNil)) (dC (.int 200)))) dNever dSkip)
  (dIfS (hNot (dTruth (dCB gAll (aCons (dLc (iAny (dVar 0)) g_check_bookings_1 hYes e_check_bookings_1 [1, 2]) aNil)))) dNever dSkip))
def g_free_spells_1 : SG := (gT 2 (gsCons (gN 5) (gsCons (gN 6) gsNil)))
def l_free_spells_1 : SS := (dSeq (dIfS (dTest (dOp gGt (dVar 5) (dVar 4))) (dExpr (dMut 3 gApp (aVal (dTup (aVal (dVar 4) (aVal (dCB gMin2 (aCons (dOp gSub (dVar 5) (dC (.int 1))) (aCons (dVar 2) aNil))) aNil))) aNil))) dSkip)
  (dSeq (dAsg 4 (dCB gMax2 (aCons (dVar 4) (aCons (dVar 6) aNil))))
  (dIfS (dTest (dOp gGt (dVar 4) (dVar 2))) (dRet (dIf (hOr (hNot (dTruth (dVar 3))) (dTest (dOp gLe (dOp gIx (dOp gIx (dVar 3) (dNeg (dC (.int 1)))) (dC (.int 0))) (dVar 2)))) (dVar 3) (dSl (dVar 3) oNone (oSome (dNeg (dC (.int 1))))))) dSkip)))
def g_free_spells_2 : SG := (gN 7)
def c_free_spells_2 : ST := (dTest (dOp gLe (dOp gIx (dVar 7) (dC (.int 0))) (dOp gIx (dVar 7) (dC (.int 1)))))
def e_free_spells_2 : SE := (dVar 7)
def b_free_spells : SS :=
  (dSeq (dExpr (dCallN b_check_bookings 3 1 (aVal (dVar 0) aNil)))
  (dSeq (dAsg 3 (dLst aNil))
  (dSeq (dAsg 4 (dVar 1))
  (dSeq (dFor (iAny (dCB gSortedB (aCons (dVar 0) aNil))) g_free_spells_1 l_free_spells_1)
  (dSeq (dIfS (dTest (dOp gLe (dVar 4) (dVar 2))) (dExpr (dMut 3 gApp (aVal (dTup (aVal (dVar 4) (aVal (dVar 2) aNil))) aNil))) dSkip)
  (dRet (dLc (iAny (dVar 3)) g_free_spells_2 c_free_spells_2 e_free_spells_2 [7])))))))
def g_length_1 : SG := (gT 2 (gsCons (gN 1) (gsCons (gN 2) gsNil)))
def e_length_1 : SE := (dOp gAdd (dOp gSub (dVar 2) (dVar 1)) (dC (.int 1)))
def b_length : SS :=
  (dRet (dCB gSum (aCons (dLc (iAny (dVar 0)) g_length_1 hYes e_length_1 [1, 2]) aNil)))
def g_first_gap_1 : SG := (gT 2 (gsCons (gN 4) (gsCons (gN 5) gsNil)))
def l_first_gap_1 : SS := (dIfS (hAnd (dTest (dOp gGt (dVar 5) (dVar 3))) (dTest (dOp gLt (dVar 4) (dOp gAdd (dVar 3) (dVar 2))))) (dAsg 3 (dVar 5)) dSkip)
def b_first_gap : SS :=
  (dSeq (dExpr (dCallN b_check_bookings 3 1 (aVal (dVar 0) aNil)))
  (dSeq (dAsg 3 (dVar 1))
  (dSeq (dFor (iAny (dCB gSortedB (aCons (dVar 0) aNil))) g_first_gap_1 l_first_gap_1)
  (dRet (dVar 3)))))
def g_check_zone_1 : SG := (gN 4)
def e_check_zone_1 : SE := (dOp gIx (dVar 4) (dC (.int 1)))
def g_check_zone_2 : SG := (gN 3)
def e_check_zone_2 : SE := (dOp gLe (dCB gAbs (aCons (dVar 3) aNil)) (dC (.int 1500)))
def g_check_zone_3 : SG := (gT 2 (gsCons (gN 5) (gsCons (gN 6) gsNil)))
def l_check_zone_3 : SS := (dIfS (dTest (dOp gGe (dOp gIx (dVar 5) (dC (.int 0))) (dOp gIx (dVar 6) (dC (.int 0))))) dNever dSkip)
def b_check_zone : SS :=
  (dSeq (dAsgG (gT 2 (gsCons (gN 1) (gsCons (gN 2) gsNil))) (dVar 0))
  (dSeq (dIfS (dTest (dOp gGt (dCB gLen (aCons (dVar 2) aNil)) (dC (.int 400)))) dNever dSkip)
  (dSeq (dIfS (hNot (dTruth (dCB gAll (aCons (dLc (iAny (dOp gAdd (dLst (aVal (dVar 1) aNil)) (dLc (iAny (dVar 2)) g_check_zone_1 hYes e_check_zone_1 [4]))) g_check_zone_2 hYes e_check_zone_2 [3]) aNil)))) dNever dSkip)
  (dFor (iZip' (aVal (dVar 2) (aVal (dSl (dVar 2) (oSome (dC (.int 1))) oNone) aNil))) g_check_zone_3 l_check_zone_3))))
def g_check_persons_1 : SG := (gT 4 (gsCons (gN 3) (gsCons (gN 4) (gsCons (gN 4) (gsCons (gN 5) gsNil)))))
def l_check_persons_1 : SS := (dSeq (dExpr (dCallN b_check_zone 7 1 (aVal (dVar 3) aNil)))
  (dExpr (dCallN b_check_bookings 3 1 (aVal (dVar 5) aNil))))
def b_check_persons : SS :=
  (dSeq (dIfS (hNot (dTest (dChain gLe gLe (dC (.int 1)) (dCB gLen (aCons (dVar 0) aNil)) (dC (.int 8))))) dNever dSkip)
  (dSeq (dIfS (hNot (dTest (dChain gLe gLe (dVar 1) (dVar 2) (dOp gAdd (dVar 1) (dC (.int 20160)))))) dNever dSkip)
  (dFor (iAny (dVar 0)) g_check_persons_1 l_check_persons_1)))
def g_joined_1 : SG := (gT 2 (gsCons (gN 2) (gsCons (gN 3) gsNil)))
def l_joined_1 : SS := (dIfS (hAnd (dTruth (dVar 1)) (dTest (dOp gLe (dVar 2) (dOp gAdd (dOp gIx (dOp gIx (dVar 1) (dNeg (dC (.int 1)))) (dC (.int 1))) (dC (.int 1)))))) (dSetI 1 (dNeg (dC (.int 1))) (dTup (aVal (dOp gIx (dOp gIx (dVar 1) (dNeg (dC (.int 1)))) (dC (.int 0))) (aVal (dCB gMax2 (aCons (dVar 3) (aCons (dOp gIx (dOp gIx (dVar 1) (dNeg (dC (.int 1)))) (dC (.int 1))) aNil))) aNil)))) (dExpr (dMut 1 gApp (aVal (dTup (aVal (dVar 2) (aVal (dVar 3) aNil))) aNil))))
def b_joined : SS :=
  (dSeq (dAsg 1 (dLst aNil))
  (dSeq (dFor (iAny (dVar 0)) g_joined_1 l_joined_1)
  (dRet (dVar 1))))
def h_both_1 : ST := (hAnd (dTruth (dVar 3)) (dTruth (dVar 4)))
def l_both_1 : SS := (dSeq (dAsg 5 (dCB gMax2 (aCons (dOp gIx (dOp gIx (dVar 3) (dC (.int 0))) (dC (.int 0))) (aCons (dOp gIx (dOp gIx (dVar 4) (dC (.int 0))) (dC (.int 0))) aNil))))
  (dSeq (dAsg 6 (dCB gMin2 (aCons (dOp gIx (dOp gIx (dVar 3) (dC (.int 0))) (dC (.int 1))) (aCons (dOp gIx (dOp gIx (dVar 4) (dC (.int 0))) (dC (.int 1))) aNil))))
  (dSeq (dIfS (dTest (dOp gLe (dVar 5) (dVar 6))) (dExpr (dMut 2 gApp (aVal (dTup (aVal (dVar 5) (aVal (dVar 6) aNil))) aNil))) dSkip)
  (dIfS (dTest (dOp gLt (dOp gIx (dOp gIx (dVar 3) (dC (.int 0))) (dC (.int 1))) (dOp gIx (dOp gIx (dVar 4) (dC (.int 0))) (dC (.int 1))))) (dExpr (dMut 3 gPopAt (aVal (dC (.int 0)) aNil))) (dExpr (dMut 4 gPopAt (aVal (dC (.int 0)) aNil)))))))
def b_both : SS :=
  (dSeq (dAsg 2 (dLst aNil))
  (dSeq (dAsg 3 (dCB gList (aCons (dVar 0) aNil)))
  (dSeq (dAsg 4 (dCB gList (aCons (dVar 1) aNil)))
  (dSeq (dWhile h_both_1 l_both_1)
  (dRet (dCallN b_joined 4 1 (aVal (dVar 2) aNil)))))))
def g_is_open_minute_1 : SG := (gT 2 (gsCons (gN 2) (gsCons (gN 3) gsNil)))
def e_is_open_minute_1 : SE := (dChain gLe gLt (dVar 2) (dVar 1) (dVar 3))
def b_is_open_minute : SS :=
  (dRet (dCB gAny (aCons (dLc (iAny (dVar 0)) g_is_open_minute_1 hYes e_is_open_minute_1 [2, 3]) aNil)))
def b_is_open : SS :=
  (dSeq (dIfS (dTest (dOp (gIn false) (dOp gDiv (dVar 2) (dC (.int 1440))) (dVar 1))) (dRet (dC (.bool false))) dSkip)
  (dRet (dCallN b_is_open_minute 4 2 (aVal (dVar 0) (aVal (dOp gMod (dOp gSub (dVar 2) (dC (.int 1440))) (dC (.int 10080))) aNil)))))
def g_offset_at_1 : SG := (gT 2 (gsCons (gN 3) (gsCons (gN 4) gsNil)))
def l_offset_at_1 : SS := (dIfS (dTest (dOp gLe (dVar 3) (dVar 1))) (dAsg 2 (dVar 4)) dSkip)
def b_offset_at : SS :=
  (dSeq (dAsg 2 (dOp gIx (dVar 0) (dC (.int 0))))
  (dSeq (dFor (iAny (dOp gIx (dVar 0) (dC (.int 1)))) g_offset_at_1 l_offset_at_1)
  (dRet (dVar 2))))
def b_local : SS :=
  (dRet (dOp gAdd (dVar 1) (dCallN b_offset_at 5 2 (aVal (dVar 0) (aVal (dVar 1) aNil)))))
def g_next_edge_1 : SG := (gN 5)
def c_next_edge_1 : ST := (dTest (dOp gGt (dOp gAdd (dVar 2) (dVar 5)) (dVar 1)))
def e_next_edge_1 : SE := (dOp gAdd (dVar 2) (dVar 5))
def g_next_edge_2 : SG := (gN 4)
def l_next_edge_2 : SS := (dExpr (dMut 3 gExt (aVal (dLc (iAny (dVar 4)) g_next_edge_1 c_next_edge_1 e_next_edge_1 [5]) aNil)))
def b_next_edge : SS :=
  (dSeq (dAsg 2 (dOp gSub (dVar 1) (dOp gMod (dOp gSub (dVar 1) (dC (.int 1440))) (dC (.int 10080)))))
  (dSeq (dAsg 3 (dLst (aVal (dOp gMul (dOp gAdd (dOp gDiv (dVar 1) (dC (.int 1440))) (dC (.int 1))) (dC (.int 1440))) aNil)))
  (dSeq (dFor (iAny (dVar 0)) g_next_edge_2 l_next_edge_2)
  (dRet (dCB gMin (aCons (dVar 3) aNil))))))
def g_next_turn_1 : SG := (gT 2 (gsCons (gN 8) (gsCons (gN 9) gsNil)))
def c_next_turn_1 : ST := (dTest (dOp gGt (dVar 8) (dVar 5)))
def e_next_turn_1 : SE := (dVar 8)
def h_next_turn_2 : ST := (dTruth (dC (.bool true)))
def l_next_turn_2 : SS := (dSeq (dAsg 6 (dCallN b_local 2 2 (aVal (dVar 2) (aVal (dVar 5) aNil))))
  (dSeq (dAsg 7 (dOp gAdd (dLst (aVal (dOp gSub (dOp gAdd (dVar 5) (dCallN b_next_edge 6 2 (aVal (dVar 0) (aVal (dVar 6) aNil)))) (dVar 6)) aNil)) (dLc (iAny (dOp gIx (dVar 2) (dC (.int 1)))) g_next_turn_1 c_next_turn_1 e_next_turn_1 [8, 9])))
  (dSeq (dAsg 5 (dCB gMin (aCons (dVar 7) aNil)))
  (dSeq (dIfS (dTest (dOp gGt (dVar 5) (dOp gAdd (dVar 3) (dC (.int 20000))))) (dRet (dC .none)) dSkip)
  (dIfS (dTest (dOp gNe (dCallN b_is_open 3 3 (aVal (dVar 0) (aVal (dVar 1) (aVal (dCallN b_local 2 2 (aVal (dVar 2) (aVal (dVar 5) aNil))) aNil)))) (dVar 4))) (dRet (dVar 5)) dSkip)))))
def b_next_turn : SS :=
  (dSeq (dAsg 4 (dCallN b_is_open 3 3 (aVal (dVar 0) (aVal (dVar 1) (aVal (dCallN b_local 2 2 (aVal (dVar 2) (aVal (dVar 3) aNil))) aNil)))))
  (dSeq (dAsg 5 (dVar 3))
  (dWhile h_next_turn_2 l_next_turn_2)))
def h_open_spells_1 : ST := (dTest (dOp gLe (dVar 8) (dVar 2)))
def l_open_spells_1 : SS := (dSeq (dAsg 9 (dCallN b_next_turn 10 4 (aVal (dVar 4) (aVal (dVar 5) (aVal (dVar 3) (aVal (dVar 8) aNil))))))
  (dSeq (dAsg 10 (dIf (dTest (dOp gIsN (dVar 9) (dC .none))) (dOp gAdd (dOp gAdd (dVar 8) (dC (.int 20000))) (dC (.int 1))) (dVar 9)))
  (dSeq (dIfS (dTruth (dCallN b_is_open 3 3 (aVal (dVar 4) (aVal (dVar 5) (aVal (dCallN b_local 2 2 (aVal (dVar 3) (aVal (dVar 8) aNil))) aNil))))) (dExpr (dMut 7 gApp (aVal (dTup (aVal (dVar 8) (aVal (dCB gMin2 (aCons (dOp gSub (dVar 10) (dC (.int 1))) (aCons (dVar 2) aNil))) aNil))) aNil))) dSkip)
  (dAsg 8 (dVar 10)))))
def b_open_spells : SS :=
  (dSeq (dAsgG (gT 4 (gsCons (gN 3) (gsCons (gN 4) (gsCons (gN 5) (gsCons (gN 6) gsNil))))) (dVar 0))
  (dSeq (dAsg 7 (dLst aNil))
  (dSeq (dAsg 8 (dVar 1))
  (dSeq (dWhile h_open_spells_1 l_open_spells_1)
  (dRet (dCallN b_joined 4 1 (aVal (dVar 7) aNil)))))))
def g_common_times_1 : SG := (gN 4)
def l_common_times_1 : SS := (dSeq (dAsg 5 (dCallN b_both 7 2 (aVal (dCallN b_open_spells 11 3 (aVal (dVar 4) (aVal (dVar 1) (aVal (dVar 2) aNil)))) (aVal (dCallN b_free_spells 8 3 (aVal (dOp gIx (dVar 4) (dC (.int 3))) (aVal (dVar 1) (aVal (dVar 2) aNil)))) aNil))))
  (dAsg 3 (dCallN b_both 7 2 (aVal (dVar 3) (aVal (dVar 5) aNil)))))
def b_common_times : SS :=
  (dSeq (dExpr (dCallN b_check_persons 6 3 (aVal (dVar 0) (aVal (dVar 1) (aVal (dVar 2) aNil)))))
  (dSeq (dAsg 3 (dLst (aVal (dTup (aVal (dVar 1) (aVal (dVar 2) aNil))) aNil)))
  (dSeq (dFor (iAny (dVar 0)) g_common_times_1 l_common_times_1)
  (dRet (dVar 3)))))
def g_first_common_1 : SG := (gT 2 (gsCons (gN 4) (gsCons (gN 5) gsNil)))
def l_first_common_1 : SS := (dIfS (dTest (dOp gGe (dOp gAdd (dOp gSub (dVar 5) (dVar 4)) (dC (.int 1))) (dVar 3))) (dRet (dVar 4)) dSkip)
def b_first_common : SS :=
  (dSeq (dFor (iAny (dCallN b_common_times 6 3 (aVal (dVar 0) (aVal (dVar 1) (aVal (dVar 2) aNil))))) g_first_common_1 l_first_common_1)
  (dRet (dC .none)))
def b__law_take : SS :=
  (dSeq (dIfS (dTest (dOp gEq (dCB gLen (aCons (dVar 0) aNil)) (dC (.int 0)))) (dRet (dC (.int 0))) dSkip)
  (dRet (dOp gMod (dCB gInt (aCons (dMut 0 gPop aNil) aNil)) (dVar 1))))
def g__law_spells_1 : SG := (gN 3)
def l__law_spells_1 : SS := (dSeq (dAsg 4 (dOp gAdd (dVar 2) (dCallN b__law_take 2 2 (aLend 0 (aVal (dC (.int 9)) aNil)))))
  (dSeq (dExpr (dMut 1 gApp (aVal (dTup (aVal (dVar 2) (aVal (dVar 4) aNil))) aNil)))
  (dAsg 2 (dOp gAdd (dOp gAdd (dVar 4) (dC (.int 2))) (dCallN b__law_take 2 2 (aLend 0 (aVal (dC (.int 9)) aNil)))))))
def b__law_spells : SS :=
  (dSeq (dPar2 1 2 (kCons (dLst aNil) (kCons (dCallN b__law_take 2 2 (aLend 0 (aVal (dC (.int 20)) aNil))) kNil)))
  (dSeq (dFor (iRng1' (aVal (dCallN b__law_take 2 2 (aLend 0 (aVal (dC (.int 5)) aNil))) aNil)) g__law_spells_1 l__law_spells_1)
  (dRet (dVar 1))))
def g_rest_1 : SG := (gT 2 (gsCons (gN 5) (gsCons (gN 6) gsNil)))
def l_rest_1 : SS := (dSeq (dIfS (dTest (dOp gGt (dVar 5) (dVar 4))) (dExpr (dMut 3 gApp (aVal (dTup (aVal (dVar 4) (aVal (dCB gMin2 (aCons (dOp gSub (dVar 5) (dC (.int 1))) (aCons (dVar 2) aNil))) aNil))) aNil))) dSkip)
  (dAsg 4 (dCB gMax2 (aCons (dVar 4) (aCons (dOp gAdd (dVar 6) (dC (.int 1))) aNil)))))
def g_rest_2 : SG := (gN 7)
def c_rest_2 : ST := (dTest (dOp gLe (dOp gIx (dVar 7) (dC (.int 0))) (dOp gIx (dVar 7) (dC (.int 1)))))
def e_rest_2 : SE := (dVar 7)
def b_rest : SS :=
  (dSeq (dAsg 3 (dLst aNil))
  (dSeq (dAsg 4 (dVar 1))
  (dSeq (dFor (iAny (dVar 0)) g_rest_1 l_rest_1)
  (dSeq (dIfS (dTest (dOp gLe (dVar 4) (dVar 2))) (dExpr (dMut 3 gApp (aVal (dTup (aVal (dVar 4) (aVal (dVar 2) aNil))) aNil))) dSkip)
  (dRet (dLc (iAny (dVar 3)) g_rest_2 c_rest_2 e_rest_2 [7]))))))
def b_either : SS :=
  (dRet (dCallN b_joined 4 1 (aVal (dCB gSortedB (aCons (dOp gAdd (dCB gList (aCons (dVar 0) aNil)) (dCB gList (aCons (dVar 1) aNil))) aNil)) aNil)))
def g__law_ticks_1 : SG := (gT 2 (gsCons (gN 2) (gsCons (gN 3) gsNil)))
def l__law_ticks_1 : SS := (dAsg 1 (dOp gAdd (dVar 1) (dRgL false (dVar 2) (dOp gAdd (dVar 3) (dC (.int 1))))))
def b__law_ticks : SS :=
  (dSeq (dAsg 1 (dLst aNil))
  (dSeq (dFor (iAny (dVar 0)) g__law_ticks_1 l__law_ticks_1)
  (dRet (dVar 1))))
def g__law_is_right_1 : SG := (gT 2 (gsCons (gN 2) (gsCons (gN 3) gsNil)))
def c__law_is_right_1 : ST := (dTest (dOp gGt (dVar 2) (dVar 3)))
def e__law_is_right_1 : SE := (dC (.int 1))
def g__law_is_right_2 : SG := (gN 1)
def c__law_is_right_2 : ST := (dTest (dOp gLt (dOp gIx (dOp gIx (dVar 0) (dOp gAdd (dVar 1) (dC (.int 1)))) (dC (.int 0))) (dOp gAdd (dOp gIx (dOp gIx (dVar 0) (dVar 1)) (dC (.int 1))) (dC (.int 2)))))
def e__law_is_right_2 : SE := (dC (.int 1))
def b__law_is_right : SS :=
  (dRet (dAnd (dOp gEq (dCB gLen (aCons (dLc (iAny (dVar 0)) g__law_is_right_1 c__law_is_right_1 e__law_is_right_1 [2, 3]) aNil)) (dC (.int 0))) (dOp gEq (dCB gLen (aCons (dLc (iRng1' (aVal (dOp gSub (dCB gLen (aCons (dVar 0) aNil)) (dC (.int 1))) aNil)) g__law_is_right_2 c__law_is_right_2 e__law_is_right_2 [1]) aNil)) (dC (.int 0)))))
def g_law_1 : SG := (gN 3)
def l_law_1 : SS := (dIfS (hNot (dTruth (dCallN b__law_is_right 4 1 (aVal (dVar 3) aNil)))) (dRet (dC (.bool false))) dSkip)
def g_law_2 : SG := (gN 22)
def c_law_2 : ST := (dTest (dOp (gIn false) (dVar 22) (dVar 18)))
def e_law_2 : SE := (dVar 22)
def g_law_3 : SG := (gN 22)
def e_law_3 : SE := (dTup (aVal (dVar 22) (aVal (dC (.bool true)) aNil)))
def g_law_4 : SG := (gT 2 (gsCons (gN 25) (gsCons (gN 26) gsNil)))
def e_law_4 : SE := (dTup (aVal (dVar 25) (aVal (dOp gAdd (dVar 26) (dC (.int 1))) aNil)))
def g_law_5 : SG := (gT 2 (gsCons (gN 25) (gsCons (gN 26) gsNil)))
def e_law_5 : SE := (dTup (aVal (dVar 25) (aVal (dOp gAdd (dVar 26) (dC (.int 1))) aNil)))
def g_law_6 : SG := (gT 2 (gsCons (gN 25) (gsCons (gN 26) gsNil)))
def c_law_6 : ST := (dTest (dOp gGe (dOp gAdd (dOp gSub (dVar 26) (dCB gMax2 (aCons (dVar 25) (aCons (dVar 22) aNil)))) (dC (.int 1))) (dVar 21)))
def e_law_6 : SE := (dCB gMax2 (aCons (dVar 25) (aCons (dVar 22) aNil)))
def t_law_7 : SS := (dPar3 10 11 12 (kCons (dCallN b__law_spells 5 1 (aLend 1 aNil)) (kCons (dCallN b__law_spells 5 1 (aLend 1 aNil)) (kCons (dCallN b__law_spells 5 1 (aLend 1 aNil)) kNil))))
def t_law_8 : SS := (dPar2 13 14 (kCons (dCallN b__law_take 2 2 (aLend 1 (aVal (dC (.int 10)) aNil))) (kCons (dOp gAdd (dC (.int 30)) (dCallN b__law_take 2 2 (aLend 1 (aVal (dC (.int 40)) aNil)))) kNil)))
def t_law_9 : SS := (dPar2 15 16 (kCons (dCallN b_rest 8 3 (aVal (dVar 10) (aVal (dVar 13) (aVal (dVar 14) aNil)))) (kCons (dCallN b_rest 8 3 (aVal (dVar 11) (aVal (dVar 13) (aVal (dVar 14) aNil)))) kNil)))
def t_law_10 : SS := (dFor (iAny (dTup (aVal (dCallN b_both 7 2 (aVal (dVar 10) (aVal (dVar 11) aNil))) (aVal (dCallN b_either 2 2 (aVal (dVar 10) (aVal (dVar 11) aNil))) (aVal (dVar 15) (aVal (dCallN b_both 7 2 (aVal (dVar 15) (aVal (dVar 16) aNil))) aNil)))))) g_law_1 l_law_1)
def t_law_11 : SS := (dAsgG (gT 2 (gsCons (gN 17) (gsCons (gN 18) gsNil))) (dTup (aVal (dCallN b__law_ticks 4 1 (aVal (dVar 10) aNil)) (aVal (dCallN b__law_ticks 4 1 (aVal (dVar 11) aNil)) aNil))))
def t_law_12 : SS := (dIfS (hOr (dTest (dOp gNe (dCallN b__law_ticks 4 1 (aVal (dCallN b_both 7 2 (aVal (dVar 10) (aVal (dVar 11) aNil))) aNil)) (dLc (iAny (dVar 17)) g_law_2 c_law_2 e_law_2 [22]))) (dTest (dOp gNe (dCallN b__law_ticks 4 1 (aVal (dCallN b_either 2 2 (aVal (dVar 10) (aVal (dVar 11) aNil))) aNil)) (dCB gSortedB (aLast (dCB gDict (aCons (dLc (iAny (dOp gAdd (dVar 17) (dVar 18))) g_law_3 hYes e_law_3 [22]) aNil))))))) (dRet (dC (.bool false))) dSkip)
def t_law_13 : SS := (dAsg 4 (dLst (aVal (dTup (aVal (dVar 13) (aVal (dVar 14) aNil))) aNil)))
def t_law_14 : SS := (dIfS (hOr (dTest (dOp gNe (dCallN b_rest 8 3 (aVal (dCallN b_both 7 2 (aVal (dVar 10) (aVal (dVar 11) aNil))) (aVal (dVar 13) (aVal (dVar 14) aNil)))) (dCallN b_either 2 2 (aVal (dVar 15) (aVal (dVar 16) aNil))))) (hOr (dTest (dOp gNe (dCallN b_rest 8 3 (aVal (dCallN b_either 2 2 (aVal (dVar 10) (aVal (dVar 11) aNil))) (aVal (dVar 13) (aVal (dVar 14) aNil)))) (dCallN b_both 7 2 (aVal (dVar 15) (aVal (dVar 16) aNil))))) (dTest (dOp gNe (dCallN b_rest 8 3 (aVal (dVar 15) (aVal (dVar 13) (aVal (dVar 14) aNil)))) (dCallN b_both 7 2 (aVal (dVar 10) (aVal (dVar 4) aNil))))))) (dRet (dC (.bool false))) dSkip)
def t_law_15 : SS := (dIfS (hOr (dTest (dOp gNe (dCallN b_both 7 2 (aVal (dVar 10) (aVal (dCallN b_either 2 2 (aVal (dVar 11) (aVal (dVar 12) aNil))) aNil))) (dCallN b_either 2 2 (aVal (dCallN b_both 7 2 (aVal (dVar 10) (aVal (dVar 11) aNil))) (aVal (dCallN b_both 7 2 (aVal (dVar 10) (aVal (dVar 12) aNil))) aNil))))) (dTest (dOp gNe (dCallN b_either 2 2 (aVal (dVar 10) (aVal (dCallN b_both 7 2 (aVal (dVar 11) (aVal (dVar 12) aNil))) aNil))) (dCallN b_both 7 2 (aVal (dCallN b_either 2 2 (aVal (dVar 10) (aVal (dVar 11) aNil))) (aVal (dCallN b_either 2 2 (aVal (dVar 10) (aVal (dVar 12) aNil))) aNil)))))) (dRet (dC (.bool false))) dSkip)
def t_law_16 : SS := (dIfS (hOr (dTest (dOp gNe (dOp gAdd (dCallN b_length 3 1 (aVal (dCallN b_both 7 2 (aVal (dVar 10) (aVal (dVar 11) aNil))) aNil)) (dCallN b_length 3 1 (aVal (dCallN b_either 2 2 (aVal (dVar 10) (aVal (dVar 11) aNil))) aNil))) (dOp gAdd (dCallN b_length 3 1 (aVal (dVar 10) aNil)) (dCallN b_length 3 1 (aVal (dVar 11) aNil))))) (dTest (dOp gNe (dOp gAdd (dCallN b_length 3 1 (aVal (dVar 15) aNil)) (dCallN b_length 3 1 (aVal (dCallN b_both 7 2 (aVal (dVar 10) (aVal (dVar 4) aNil))) aNil))) (dOp gAdd (dOp gSub (dVar 14) (dVar 13)) (dC (.int 1)))))) (dRet (dC (.bool false))) dSkip)
def t_law_17 : SS := (dPar2 19 20 (kCons (dCB gTuple (aCons (dLc (iAny (dVar 10)) g_law_5 hYes e_law_5 [25, 26]) aNil)) (kCons (dCB gTuple (aCons (dLc (iAny (dVar 11)) g_law_4 hYes e_law_4 [25, 26]) aNil)) kNil)))
def t_law_18 : SS := (dAsg 5 (dCallN b_free_spells 8 3 (aVal (dVar 19) (aVal (dVar 13) (aVal (dVar 14) aNil)))))
def t_law_19 : SS := (dIfS (hOr (dTest (dOp gNe (dVar 5) (dVar 15))) (hOr (dTest (dOp gNe (dCallN b_free_spells 8 3 (aVal (dOp gAdd (dVar 19) (dVar 20)) (aVal (dVar 13) (aVal (dVar 14) aNil)))) (dCallN b_both 7 2 (aVal (dVar 15) (aVal (dVar 16) aNil))))) (dTest (dOp gNe (dCallN b_free_spells 8 3 (aVal (dOp gAdd (dVar 19) (dVar 19)) (aVal (dVar 13) (aVal (dVar 14) aNil)))) (dVar 15))))) (dRet (dC (.bool false))) dSkip)
def t_law_20 : SS := (dAsgG (gT 2 (gsCons (gN 21) (gsCons (gN 22) gsNil))) (dTup (aVal (dOp gAdd (dC (.int 1)) (dCallN b__law_take 2 2 (aLend 1 (aVal (dC (.int 9)) aNil)))) (aVal (dOp gAdd (dVar 13) (dCallN b__law_take 2 2 (aLend 1 (aVal (dC (.int 10)) aNil)))) aNil))))
def t_law_21 : SS := (dAsg 6 (dCallN b_first_gap 6 3 (aVal (dOp gAdd (dVar 19) (dVar 20)) (aVal (dVar 22) (aVal (dVar 21) aNil)))))
def t_law_22 : SS := (dAsg 7 (dLc (iAny (dCallN b_rest 8 3 (aVal (dCallN b_either 2 2 (aVal (dVar 10) (aVal (dVar 11) aNil))) (aVal (dVar 22) (aVal (dC (.int 300)) aNil))))) g_law_6 c_law_6 e_law_6 [25, 26]))
def t_law_23 : SS := (dIfS (dTest (dOp gNe (dVar 6) (dOp gIx (dVar 7) (dC (.int 0))))) (dRet (dC (.bool false))) dSkip)
def t_law_24 : SS := (dAsgG (gT 2 (gsCons (gN 23) (gsCons (gN 24) gsNil))) (dTup (aVal (dTup (aVal (dC (.int 60)) (aVal (dTup (aVal (dTup (aVal (dC (.int 40)) (aVal (dC (.int 0)) aNil))) aNil)) aNil))) (aVal (dTup (aVal (dTup (aVal (dC (.int 0)) (aVal (dC (.int 10080)) aNil))) aNil)) aNil))))
def t_law_25 : SS := (dAsg 8 (dTup (aVal (dTup (aVal (dVar 23) (aVal (dVar 24) (aVal (dLst aNil) (aVal (dVar 19) aNil))))) (aVal (dTup (aVal (dTup (aVal (dC (.int 0)) (aVal (dTup aNil) aNil))) (aVal (dVar 24) (aVal (dLst aNil) (aVal (dVar 20) aNil))))) aNil))))
def t_law_26 : SS := (dIfS (dTest (dOp gNe (dCallN b_common_times 6 3 (aVal (dVar 8) (aVal (dVar 13) (aVal (dVar 14) aNil)))) (dCallN b_both 7 2 (aVal (dVar 15) (aVal (dVar 16) aNil))))) (dRet (dC (.bool false))) dSkip)
def t_law_27 : SS := (dAsg 9 (dCallN b_first_common 6 4 (aVal (dVar 8) (aVal (dVar 13) (aVal (dVar 14) (aVal (dVar 21) aNil))))))
def t_law_28 : SS := (dIfS (hOr (hAnd (dTest (dOp gNotN (dVar 9) (dC .none))) (dTest (dOp gNe (dVar 9) (dCallN b_first_gap 6 3 (aVal (dOp gAdd (dVar 19) (dVar 20)) (aVal (dVar 13) (aVal (dVar 21) aNil))))))) (hAnd (dTest (dOp gIsN (dVar 9) (dC .none))) (dTest (dOp gLe (dOp gSub (dOp gAdd (dCallN b_first_gap 6 3 (aVal (dOp gAdd (dVar 19) (dVar 20)) (aVal (dVar 13) (aVal (dVar 21) aNil)))) (dVar 21)) (dC (.int 1))) (dVar 14))))) (dRet (dC (.bool false))) dSkip)
def g_law_29 : SG := (gN 2)
def l_law_29 : SS := (dSeq t_law_7
  (dSeq t_law_8
  (dSeq t_law_9
  (dSeq t_law_10
  (dSeq t_law_11
  (dSeq t_law_12
  (dSeq t_law_13
  (dSeq t_law_14
  (dSeq t_law_15
  (dSeq t_law_16
  (dSeq t_law_17
  (dSeq t_law_18
  (dSeq t_law_19
  (dSeq t_law_20
  (dSeq t_law_21
  (dSeq t_law_22
  (dSeq t_law_23
  (dSeq t_law_24
  (dSeq t_law_25
  (dSeq t_law_26
  (dSeq t_law_27
  t_law_28)))))))))))))))))))))
def b_law : SS :=
  (dSeq (dAsg 1 (dCallN b__law_draws 9 2 (aLend 0 (aVal (dC (.int 300)) aNil))))
  (dSeq (dFor (iRng1' (aVal (dC (.int 4)) aNil)) g_law_29 l_law_29)
  (dRet (dC (.bool true)))))
section
variable {P : Program} {w : World} {K : PySem.W.Frag} {mg : Str → Option Value} {base : Heap}
theorem ok__law_draws (T : Top K mg) : FnOk P w K mg base CX0 1 T.a__law_draws T.d__law_draws ["script", "count"] (spL K b__law_draws 9 2) := fn_ok (N := N__law_draws) (k := 0) T.F__law_draws sc__law_draws (by decide) fun cdv A outer s H E hr =>
      (dss_cons (ds_asg (i := 2) sc__law_draws.nd (de_listScr 0 T.b_list boot_list))
      (dss_cons (ds_if (dt_cmp (op_eqD hr.units) ok_eq (de_cb call_lenA ok_len T.b_len (by decide +kernel) (da_cons (de_var 2) da_nil)) de_int (nomark _)) (dss_one (ds_asg (i := 2) sc__law_draws.nd (de_lst (da_val de_int da_nil)))) dss_nil)
      (dss_cons (ds_asg (i := 3) sc__law_draws.nd (de_lst da_nil))
      (dss_cons (ds_asg (i := 4) sc__law_draws.nd de_int)
      (dss_cons (ds_for PassesOwn.never rfl (di_range1 T.b_range (da_val (de_var 1) da_nil)) (dg_name 5 sc__law_draws.nd) (dss_cons (ds_asg (i := 6) sc__law_draws.nd (de_mod (de_var 5) (de_cb call_lenA ok_len T.b_len (by decide +kernel) (da_cons (de_var 2) da_nil))))
      (dss_cons (ds_asg (i := 7) sc__law_draws.nd (de_ix (de_var 2) (de_var 6)))
      (dss_cons (ds_asg (i := 4) sc__law_draws.nd (de_mod (de_ct call_int1 ok_int T.b_int (by decide +kernel) (da_cons (de_add (de_add (de_add (de_mul (de_var 4) de_int) (de_mul (de_mod (de_ct call_int1 ok_int T.b_int (by decide +kernel) (da_cons (de_var 7) da_nil)) de_int) de_int)) (de_mul (de_var 5) de_int)) de_int) da_nil)) de_int))
      (dss_cons (ds_asg (i := 8) sc__law_draws.nd (de_mod (de_ct call_int1 ok_int T.b_int (by decide +kernel) (da_cons (de_add (de_add (de_mul (de_var 4) (de_var 4)) (de_mul de_int (de_var 4))) (de_var 5)) da_nil)) de_int))
      (dss_one (ds_if (dt_cmp op_ge ok_ge (de_var 7) (de_pow de_int de_int) (nomark _)) (dss_cons (ds_expr (de_append (i := 3) (da_val (de_mod (de_ct call_int1 ok_int T.b_int (by decide +kernel) (da_cons (de_var 7) da_nil)) de_int) da_nil)))
      (dss_one (ds_setI (i := 2) (de_div (de_var 7) de_int) (de_var 6)))) (dss_one (ds_expr (de_append (i := 3) (da_val (de_mod (de_ct call_int1 ok_int T.b_int (by decide +kernel) (da_cons (de_var 8) da_nil)) de_int) da_nil)))))))))))
      (dss_cons (ds_expr (de_reverse (i := 3)))
      (dss_one (ds_ret (de_var 3)))))))))
theorem ok_check_bookings (T : Top K mg) : FnOk P w K mg base CX0 1 T.a_check_bookings T.d_check_bookings ["bookings"] (spL K b_check_bookings 3 1) := fn_ok (N := N_check_bookings) (k := 0) T.F_check_bookings sc_check_bookings (by decide) fun cdv A outer s H E hr =>
      (dss_cons (ds_if (dt_cmp op_gt ok_gt (de_cb call_lenA ok_len T.b_len (by decide +kernel) (da_cons (de_var 0) da_nil)) (de_glob (i := 200) (Classical.choose_spec T.c_MOST)) (nomark _)) (dss_one ds_never) dss_nil)
      (dss_one (ds_if (dt_not (dt_truth (de_cb (cr_all rfl) ok_all T.b_all (by decide +kernel) (da_cons (de_lc (own := [((Str.ofString "begin"), 1), ((Str.ofString "end"), 2)]) rfl sc_check_bookings.nd (di_any (de_var 0)) (blkOk_by (N := N_check_bookings) (sc := defScope s_check_bookings) (by decide +kernel)) (fun _ _ _ _ _ => (dg_tup rfl (dgs_cons (dg_name 1 sc_check_bookings.nd) (dgs_cons (dg_name 2 sc_check_bookings.nd) dgs_nil)))) (fun _ _ _ _ _ => dts_nil) (fun _ _ _ _ _ => (de_cmp op_lt ok_lt (de_var 1) (de_var 2) (nomark _)))) da_nil)))) (dss_one ds_never) dss_nil)))
theorem ok_free_spells (T : Top K mg) : FnOk P w K mg base CX0 2 T.a_free_spells T.d_free_spells ["bookings", "start", "end"] (spL K b_free_spells 8 3) := fn_ok (N := N_free_spells) (k := 1) T.F_free_spells sc_free_spells (by decide) fun cdv A outer s H E hr =>
      (dss_cons (ds_expr (de_call ((ok_check_bookings (P := P) (w := w) (base := base) T).mono (k := 1) (by decide)) hr T.g_check_bookings T.F_check_bookings.kp T.B_check_bookings (da_val (de_var 0) da_nil)))
      (dss_cons (ds_asg (i := 3) sc_free_spells.nd (de_lst da_nil))
      (dss_cons (ds_asg (i := 4) sc_free_spells.nd (de_var 1))
      (dss_cons (ds_for PassesOwn.never rfl (di_any (de_cb (call_sortedB rfl) ok_sortedB T.b_sorted (by decide +kernel) (da_cons (de_var 0) da_nil))) (dg_tup rfl (dgs_cons (dg_name 5 sc_free_spells.nd) (dgs_cons (dg_name 6 sc_free_spells.nd) dgs_nil))) (dss_cons (ds_if (dt_cmp op_gt ok_gt (de_var 5) (de_var 4) (nomark _)) (dss_one (ds_expr (de_append (i := 3) (da_val (de_tup (da_val (de_var 4) (da_val (de_cb (call_min2 rfl) ok_min2 T.b_min (by decide +kernel) (da_cons (de_sub (de_var 5) de_int) (da_cons (de_var 2) da_nil))) da_nil))) da_nil)))) dss_nil)
      (dss_cons (ds_asg (i := 4) sc_free_spells.nd (de_cb (call_max2 rfl) ok_max2 T.b_max (by decide +kernel) (da_cons (de_var 4) (da_cons (de_var 6) da_nil))))
      (dss_one (ds_if (dt_cmp op_gt ok_gt (de_var 4) (de_var 2) (nomark _)) (dss_one (ds_ret (de_if (dt_w (dw_or (dt_not (dt_truth (de_var 3))) (dw_or1 (dt_cmp op_le ok_le (de_ix (de_ix (de_var 3) (de_neg de_int)) de_int) (de_var 2) (nomark _))))) (de_var 3) (de_sl (de_var 3) do_none (do_some (de_neg de_int)))))) dss_nil)))))
      (dss_cons (ds_if (dt_cmp op_le ok_le (de_var 4) (de_var 2) (nomark _)) (dss_one (ds_expr (de_append (i := 3) (da_val (de_tup (da_val (de_var 4) (da_val (de_var 2) da_nil))) da_nil)))) dss_nil)
      (dss_one (ds_ret (de_lc (own := [((Str.ofString "spell"), 7)]) rfl sc_free_spells.nd (di_any (de_var 3)) (blkOk_by (N := N_free_spells) (sc := defScope s_free_spells) (by decide +kernel)) (fun _ _ _ _ _ => (dg_name 7 sc_free_spells.nd)) (fun _ _ _ _ _ => (dts_one (dt_cmp op_le ok_le (de_ix (de_var 7) de_int) (de_ix (de_var 7) de_int) (nomark _)))) (fun _ _ _ _ _ => (de_var 7))))))))))
theorem ok_length (T : Top K mg) : FnOk P w K mg base CX0 1 T.a_length T.d_length ["spells"] (spL K b_length 3 1) := fn_ok (N := N_length) (k := 0) T.F_length sc_length (by decide) fun cdv A outer s H E hr =>
      (dss_one (ds_ret (de_cb (cr_sum rfl) ok_sum T.b_sum (by decide +kernel) (da_cons (de_lc (own := [((Str.ofString "start"), 1), ((Str.ofString "end"), 2)]) rfl sc_length.nd (di_any (de_var 0)) (blkOk_by (N := N_length) (sc := defScope s_length) (by decide +kernel)) (fun _ _ _ _ _ => (dg_tup rfl (dgs_cons (dg_name 1 sc_length.nd) (dgs_cons (dg_name 2 sc_length.nd) dgs_nil)))) (fun _ _ _ _ _ => dts_nil) (fun _ _ _ _ _ => (de_add (de_sub (de_var 2) (de_var 1)) de_int))) da_nil))))
theorem ok_first_gap (T : Top K mg) : FnOk P w K mg base CX0 2 T.a_first_gap T.d_first_gap ["bookings", "tick", "length"] (spL K b_first_gap 6 3) := fn_ok (N := N_first_gap) (k := 1) T.F_first_gap sc_first_gap (by decide) fun cdv A outer s H E hr =>
      (dss_cons (ds_expr (de_call ((ok_check_bookings (P := P) (w := w) (base := base) T).mono (k := 1) (by decide)) hr T.g_check_bookings T.F_check_bookings.kp T.B_check_bookings (da_val (de_var 0) da_nil)))
      (dss_cons (ds_asg (i := 3) sc_first_gap.nd (de_var 1))
      (dss_cons (ds_for PassesOwn.never rfl (di_any (de_cb (call_sortedB rfl) ok_sortedB T.b_sorted (by decide +kernel) (da_cons (de_var 0) da_nil))) (dg_tup rfl (dgs_cons (dg_name 4 sc_first_gap.nd) (dgs_cons (dg_name 5 sc_first_gap.nd) dgs_nil))) (dss_one (ds_if (dt_w (dw_and (dt_cmp op_gt ok_gt (de_var 5) (de_var 3) (nomark _)) (dw_and1 (dt_cmp op_lt ok_lt (de_var 4) (de_add (de_var 3) (de_var 2)) (nomark _))))) (dss_one (ds_asg (i := 3) sc_first_gap.nd (de_var 5))) dss_nil)))
      (dss_one (ds_ret (de_var 3))))))
theorem ok_check_zone (T : Top K mg) : FnOk P w K mg base CX0 1 T.a_check_zone T.d_check_zone ["zone"] (spL K b_check_zone 7 1) := fn_ok (N := N_check_zone) (k := 0) T.F_check_zone sc_check_zone (by decide) fun cdv A outer s H E hr =>
      (dss_cons (ds_asgG (de_var 0) (dg_tup rfl (dgs_cons (dg_name 1 sc_check_zone.nd) (dgs_cons (dg_name 2 sc_check_zone.nd) dgs_nil))))
      (dss_cons (ds_if (dt_cmp op_gt ok_gt (de_cb call_lenA ok_len T.b_len (by decide +kernel) (da_cons (de_var 2) da_nil)) (de_glob (i := 400) (Classical.choose_spec T.c_MOST_CHANGES)) (nomark _)) (dss_one ds_never) dss_nil)
      (dss_cons (ds_if (dt_not (dt_truth (de_cb (cr_all rfl) ok_all T.b_all (by decide +kernel) (da_cons (de_lc (own := [((Str.ofString "number"), 3)]) rfl sc_check_zone.nd (di_any (de_add (de_lst (da_val (de_var 1) da_nil)) (de_lc (own := [((Str.ofString "change"), 4)]) rfl sc_check_zone.nd (di_any (de_var 2)) (blkOk_by (N := N_check_zone) (sc := defScope s_check_zone) (by decide +kernel)) (fun _ _ _ _ _ => (dg_name 4 sc_check_zone.nd)) (fun _ _ _ _ _ => dts_nil) (fun _ _ _ _ _ => (de_ix (de_var 4) de_int))))) (blkOk_by (N := N_check_zone) (sc := defScope s_check_zone) (by decide +kernel)) (fun _ _ _ _ _ => (dg_name 3 sc_check_zone.nd)) (fun _ _ _ _ _ => dts_nil) (fun _ _ _ _ _ => (de_cmp op_le ok_le (de_cb call_abs ok_abs T.b_abs (by decide +kernel) (da_cons (de_var 3) da_nil)) (de_glob (i := 1500) (Classical.choose_spec T.c_FARTHEST_zones)) (nomark _)))) da_nil)))) (dss_one ds_never) dss_nil)
      (dss_one (ds_for PassesOwn.never rfl (di_zip T.b_zip (da_val (de_var 2) (da_val (de_sl (de_var 2) (do_some de_int) do_none) da_nil))) (dg_tup rfl (dgs_cons (dg_name 5 sc_check_zone.nd) (dgs_cons (dg_name 6 sc_check_zone.nd) dgs_nil))) (dss_one (ds_if (dt_cmp op_ge ok_ge (de_ix (de_var 5) de_int) (de_ix (de_var 6) de_int) (nomark _)) (dss_one ds_never) dss_nil)))))))
theorem ok_check_persons (T : Top K mg) : FnOk P w K mg base CX0 2 T.a_check_persons T.d_check_persons ["persons", "start", "end"] (spL K b_check_persons 6 3) := fn_ok (N := N_check_persons) (k := 1) T.F_check_persons sc_check_persons (by decide) fun cdv A outer s H E hr =>
      (dss_cons (ds_if (dt_not (dt_chain op_le op_le ok_le ok_le de_int (de_cb call_lenA ok_len T.b_len (by decide +kernel) (da_cons (de_var 0) da_nil)) (de_glob (i := 8) (Classical.choose_spec T.c_MOST_PERSONS)))) (dss_one ds_never) dss_nil)
      (dss_cons (ds_if (dt_not (dt_chain op_le op_le ok_le ok_le (de_var 1) (de_var 2) (de_add (de_var 1) (de_glob (i := 20160) (Classical.choose_spec T.c_LONGEST_SPAN))))) (dss_one ds_never) dss_nil)
      (dss_one (ds_for PassesOwn.never rfl (di_any (de_var 0)) (dg_tup rfl (dgs_cons (dg_name 3 sc_check_persons.nd) (dgs_cons (dg_name 4 sc_check_persons.nd) (dgs_cons (dg_name 4 sc_check_persons.nd) (dgs_cons (dg_name 5 sc_check_persons.nd) dgs_nil))))) (dss_cons (ds_expr (de_call ((ok_check_zone (P := P) (w := w) (base := base) T).mono (k := 1) (by decide)) hr T.g_check_zone T.F_check_zone.kp T.B_check_zone (da_val (de_var 3) da_nil)))
      (dss_one (ds_expr (de_call ((ok_check_bookings (P := P) (w := w) (base := base) T).mono (k := 1) (by decide)) hr T.g_check_bookings T.F_check_bookings.kp T.B_check_bookings (da_val (de_var 5) da_nil)))))))))
theorem ok_joined (T : Top K mg) : FnOk P w K mg base CX0 1 T.a_joined T.d_joined ["pairs"] (spL K b_joined 4 1) := fn_ok (N := N_joined) (k := 0) T.F_joined sc_joined (by decide) fun cdv A outer s H E hr =>
      (dss_cons (ds_asg (i := 1) sc_joined.nd (de_lst da_nil))
      (dss_cons (ds_for PassesOwn.never rfl (di_any (de_var 0)) (dg_tup rfl (dgs_cons (dg_name 2 sc_joined.nd) (dgs_cons (dg_name 3 sc_joined.nd) dgs_nil))) (dss_one (ds_if (dt_w (dw_and (dt_truth (de_var 1)) (dw_and1 (dt_cmp op_le ok_le (de_var 2) (de_add (de_ix (de_ix (de_var 1) (de_neg de_int)) de_int) de_int) (nomark _))))) (dss_one (ds_setI (i := 1) (de_tup (da_val (de_ix (de_ix (de_var 1) (de_neg de_int)) de_int) (da_val (de_cb (call_max2 rfl) ok_max2 T.b_max (by decide +kernel) (da_cons (de_var 3) (da_cons (de_ix (de_ix (de_var 1) (de_neg de_int)) de_int) da_nil))) da_nil))) (de_neg de_int))) (dss_one (ds_expr (de_append (i := 1) (da_val (de_tup (da_val (de_var 2) (da_val (de_var 3) da_nil))) da_nil)))))))
      (dss_one (ds_ret (de_var 1)))))
theorem ok_both (T : Top K mg) : FnOk P w K mg base CX0 2 T.a_both T.d_both ["first", "second"] (spL K b_both 7 2) := fn_ok (N := N_both) (k := 1) T.F_both sc_both (by decide) fun cdv A outer s H E hr =>
      (dss_cons (ds_asg (i := 2) sc_both.nd (de_lst da_nil))
      (dss_cons (ds_asg (i := 3) sc_both.nd (de_ct call_list_of ok_list T.b_list (by decide +kernel) (da_cons (de_var 0) da_nil)))
      (dss_cons (ds_asg (i := 4) sc_both.nd (de_ct call_list_of ok_list T.b_list (by decide +kernel) (da_cons (de_var 1) da_nil)))
      (dss_cons (ds_while PassesOwn.never (dt_w (dw_and (dt_truth (de_var 3)) (dw_and1 (dt_truth (de_var 4))))) (dss_cons (ds_asg (i := 5) sc_both.nd (de_cb (call_max2 rfl) ok_max2 T.b_max (by decide +kernel) (da_cons (de_ix (de_ix (de_var 3) de_int) de_int) (da_cons (de_ix (de_ix (de_var 4) de_int) de_int) da_nil))))
      (dss_cons (ds_asg (i := 6) sc_both.nd (de_cb (call_min2 rfl) ok_min2 T.b_min (by decide +kernel) (da_cons (de_ix (de_ix (de_var 3) de_int) de_int) (da_cons (de_ix (de_ix (de_var 4) de_int) de_int) da_nil))))
      (dss_cons (ds_if (dt_cmp op_le ok_le (de_var 5) (de_var 6) (nomark _)) (dss_one (ds_expr (de_append (i := 2) (da_val (de_tup (da_val (de_var 5) (da_val (de_var 6) da_nil))) da_nil)))) dss_nil)
      (dss_one (ds_if (dt_cmp op_lt ok_lt (de_ix (de_ix (de_var 3) de_int) de_int) (de_ix (de_ix (de_var 4) de_int) de_int) (nomark _)) (dss_one (ds_expr (de_popAt (i := 3) (da_val de_int da_nil)))) (dss_one (ds_expr (de_popAt (i := 4) (da_val de_int da_nil))))))))))
      (dss_one (ds_ret (de_call ((ok_joined (P := P) (w := w) (base := base) T).mono (k := 1) (by decide)) hr T.g_joined T.F_joined.kp T.B_joined (da_val (de_var 2) da_nil))))))))
theorem ok_is_open_minute (T : Top K mg) : FnOk P w K mg base CX0 1 T.a_is_open_minute T.d_is_open_minute ["week", "minute"] (spL K b_is_open_minute 4 2) := fn_ok (N := N_is_open_minute) (k := 0) T.F_is_open_minute sc_is_open_minute (by decide) fun cdv A outer s H E hr =>
      (dss_one (ds_ret (de_cb (cr_any rfl) ok_any T.b_any (by decide +kernel) (da_cons (de_lc (own := [((Str.ofString "begin"), 2), ((Str.ofString "end"), 3)]) rfl sc_is_open_minute.nd (di_any (de_var 0)) (blkOk_by (N := N_is_open_minute) (sc := defScope s_is_open_minute) (by decide +kernel)) (fun _ _ _ _ _ => (dg_tup rfl (dgs_cons (dg_name 2 sc_is_open_minute.nd) (dgs_cons (dg_name 3 sc_is_open_minute.nd) dgs_nil)))) (fun _ _ _ _ _ => dts_nil) (fun _ _ _ _ _ => (de_chain op_le op_lt ok_le ok_lt (de_var 2) (de_var 1) (de_var 3)))) da_nil))))
theorem ok_is_open (T : Top K mg) : FnOk P w K mg base CX0 2 T.a_is_open T.d_is_open ["week", "closed", "time"] (spL K b_is_open 3 3) := fn_ok (N := N_is_open) (k := 1) T.F_is_open sc_is_open (by decide) fun cdv A outer s H E hr =>
      (dss_cons (ds_if (dt_cmp op_in_seq ok_in (de_div (de_var 2) (de_glob (i := 1440) (Classical.choose_spec T.c_DAY))) (de_var 1) (by rfl)) (dss_one (ds_ret de_bl)) dss_nil)
      (dss_one (ds_ret (de_call ((ok_is_open_minute (P := P) (w := w) (base := base) T).mono (k := 1) (by decide)) hr T.g_is_open_minute T.F_is_open_minute.kp T.B_is_open_minute (da_val (de_var 0) (da_val (de_mod (de_sub (de_var 2) (de_glob (i := 1440) (Classical.choose_spec T.c_FIRST_MONDAY))) (de_glob (i := 10080) (Classical.choose_spec T.c_WEEK))) da_nil))))))
theorem ok_offset_at (T : Top K mg) : FnOk P w K mg base CX0 1 T.a_offset_at T.d_offset_at ["zone", "tick"] (spL K b_offset_at 5 2) := fn_ok (N := N_offset_at) (k := 0) T.F_offset_at sc_offset_at (by decide) fun cdv A outer s H E hr =>
      (dss_cons (ds_asg (i := 2) sc_offset_at.nd (de_ix (de_var 0) de_int))
      (dss_cons (ds_for PassesOwn.never rfl (di_any (de_ix (de_var 0) de_int)) (dg_tup rfl (dgs_cons (dg_name 3 sc_offset_at.nd) (dgs_cons (dg_name 4 sc_offset_at.nd) dgs_nil))) (dss_one (ds_if (dt_cmp op_le ok_le (de_var 3) (de_var 1) (nomark _)) (dss_one (ds_asg (i := 2) sc_offset_at.nd (de_var 4))) dss_nil)))
      (dss_one (ds_ret (de_var 2)))))
theorem ok_local (T : Top K mg) : FnOk P w K mg base CX0 2 T.a_local T.d_local ["zone", "tick"] (spL K b_local 2 2) := fn_ok (N := N_local) (k := 1) T.F_local sc_local (by decide) fun cdv A outer s H E hr =>
      (dss_one (ds_ret (de_add (de_var 1) (de_call ((ok_offset_at (P := P) (w := w) (base := base) T).mono (k := 1) (by decide)) hr T.g_offset_at T.F_offset_at.kp T.B_offset_at (da_val (de_var 0) (da_val (de_var 1) da_nil))))))
theorem ok_next_edge (T : Top K mg) : FnOk P w K mg base CX0 1 T.a_next_edge T.d_next_edge ["week", "time"] (spL K b_next_edge 6 2) := fn_ok (N := N_next_edge) (k := 0) T.F_next_edge sc_next_edge (by decide) fun cdv A outer s H E hr =>
      (dss_cons (ds_asg (i := 2) sc_next_edge.nd (de_sub (de_var 1) (de_mod (de_sub (de_var 1) (de_glob (i := 1440) (Classical.choose_spec T.c_FIRST_MONDAY))) (de_glob (i := 10080) (Classical.choose_spec T.c_WEEK)))))
      (dss_cons (ds_asg (i := 3) sc_next_edge.nd (de_lst (da_val (de_mul (de_add (de_div (de_var 1) (de_glob (i := 1440) (Classical.choose_spec T.c_DAY))) de_int) (de_glob (i := 1440) (Classical.choose_spec T.c_DAY))) da_nil)))
      (dss_cons (ds_for PassesOwn.never rfl (di_any (de_var 0)) (dg_name 4 sc_next_edge.nd) (dss_one (ds_expr (de_extend (i := 3) (da_val (de_lc (own := [((Str.ofString "minute"), 5)]) rfl sc_next_edge.nd (di_any (de_var 4)) (blkOk_by (N := N_next_edge) (sc := defScope s_next_edge) (by decide +kernel)) (fun _ _ _ _ _ => (dg_name 5 sc_next_edge.nd)) (fun _ _ _ _ _ => (dts_one (dt_cmp op_gt ok_gt (de_add (de_var 2) (de_var 5)) (de_var 1) (nomark _)))) (fun _ _ _ _ _ => (de_add (de_var 2) (de_var 5)))) da_nil)))))
      (dss_one (ds_ret (de_cb (cr_min rfl) ok_min T.b_min (by decide +kernel) (da_cons (de_var 3) da_nil)))))))
theorem ok_next_turn (T : Top K mg) : FnOk P w K mg base CX0 3 T.a_next_turn T.d_next_turn ["week", "closed", "zone", "tick"] (spL K b_next_turn 10 4) := fn_ok (N := N_next_turn) (k := 2) T.F_next_turn sc_next_turn (by decide) fun cdv A outer s H E hr =>
      (dss_cons (ds_asg (i := 4) sc_next_turn.nd (de_call ((ok_is_open (P := P) (w := w) (base := base) T).mono (k := 2) (by decide)) hr T.g_is_open T.F_is_open.kp T.B_is_open (da_val (de_var 0) (da_val (de_var 1) (da_val (de_call ((ok_local (P := P) (w := w) (base := base) T).mono (k := 2) (by decide)) hr T.g_local T.F_local.kp T.B_local (da_val (de_var 2) (da_val (de_var 3) da_nil))) da_nil)))))
      (dss_cons (ds_asg (i := 5) sc_next_turn.nd (de_var 3))
      (dss_one (ds_while PassesOwn.never (dt_truth de_bl) (dss_cons (ds_asg (i := 6) sc_next_turn.nd (de_call ((ok_local (P := P) (w := w) (base := base) T).mono (k := 2) (by decide)) hr T.g_local T.F_local.kp T.B_local (da_val (de_var 2) (da_val (de_var 5) da_nil))))
      (dss_cons (ds_asg (i := 7) sc_next_turn.nd (de_add (de_lst (da_val (de_sub (de_add (de_var 5) (de_call ((ok_next_edge (P := P) (w := w) (base := base) T).mono (k := 2) (by decide)) hr T.g_next_edge T.F_next_edge.kp T.B_next_edge (da_val (de_var 0) (da_val (de_var 6) da_nil)))) (de_var 6)) da_nil)) (de_lc (own := [((Str.ofString "since"), 8), ((Str.ofString "_"), 9)]) rfl sc_next_turn.nd (di_any (de_ix (de_var 2) de_int)) (blkOk_by (N := N_next_turn) (sc := defScope s_next_turn) (by decide +kernel)) (fun _ _ _ _ _ => (dg_tup rfl (dgs_cons (dg_name 8 sc_next_turn.nd) (dgs_cons (dg_name 9 sc_next_turn.nd) dgs_nil)))) (fun _ _ _ _ _ => (dts_one (dt_cmp op_gt ok_gt (de_var 8) (de_var 5) (nomark _)))) (fun _ _ _ _ _ => (de_var 8)))))
      (dss_cons (ds_asg (i := 5) sc_next_turn.nd (de_cb (cr_min rfl) ok_min T.b_min (by decide +kernel) (da_cons (de_var 7) da_nil)))
      (dss_cons (ds_if (dt_cmp op_gt ok_gt (de_var 5) (de_add (de_var 3) (de_glob (i := 20000) (Classical.choose_spec T.c_FARTHEST_hours))) (nomark _)) (dss_one (ds_ret de_non)) dss_nil)
      (dss_one (ds_if (dt_cmp (op_neD hr.units) ok_ne (de_call ((ok_is_open (P := P) (w := w) (base := base) T).mono (k := 2) (by decide)) hr T.g_is_open T.F_is_open.kp T.B_is_open (da_val (de_var 0) (da_val (de_var 1) (da_val (de_call ((ok_local (P := P) (w := w) (base := base) T).mono (k := 2) (by decide)) hr T.g_local T.F_local.kp T.B_local (da_val (de_var 2) (da_val (de_var 5) da_nil))) da_nil)))) (de_var 4) (nomark _)) (dss_one (ds_ret (de_var 5))) dss_nil))))))))))
theorem ok_open_spells (T : Top K mg) : FnOk P w K mg base CX0 4 T.a_open_spells T.d_open_spells ["person", "start", "end"] (spL K b_open_spells 11 3) := fn_ok (N := N_open_spells) (k := 3) T.F_open_spells sc_open_spells (by decide) fun cdv A outer s H E hr =>
      (dss_cons (ds_asgG (de_var 0) (dg_tup rfl (dgs_cons (dg_name 3 sc_open_spells.nd) (dgs_cons (dg_name 4 sc_open_spells.nd) (dgs_cons (dg_name 5 sc_open_spells.nd) (dgs_cons (dg_name 6 sc_open_spells.nd) dgs_nil))))))
      (dss_cons (ds_asg (i := 7) sc_open_spells.nd (de_lst da_nil))
      (dss_cons (ds_asg (i := 8) sc_open_spells.nd (de_var 1))
      (dss_cons (ds_while PassesOwn.never (dt_cmp op_le ok_le (de_var 8) (de_var 2) (nomark _)) (dss_cons (ds_asg (i := 9) sc_open_spells.nd (de_call ((ok_next_turn (P := P) (w := w) (base := base) T).mono (k := 3) (by decide)) hr T.g_next_turn T.F_next_turn.kp T.B_next_turn (da_val (de_var 4) (da_val (de_var 5) (da_val (de_var 3) (da_val (de_var 8) da_nil))))))
      (dss_cons (ds_asg (i := 10) sc_open_spells.nd (de_if (dt_cmp op_isN ok_isN (de_var 9) de_non (nomark _)) (de_add (de_add (de_var 8) (de_glob (i := 20000) (Classical.choose_spec T.c_FARTHEST_hours))) de_int) (de_var 9)))
      (dss_cons (ds_if (dt_truth (de_call ((ok_is_open (P := P) (w := w) (base := base) T).mono (k := 3) (by decide)) hr T.g_is_open T.F_is_open.kp T.B_is_open (da_val (de_var 4) (da_val (de_var 5) (da_val (de_call ((ok_local (P := P) (w := w) (base := base) T).mono (k := 3) (by decide)) hr T.g_local T.F_local.kp T.B_local (da_val (de_var 3) (da_val (de_var 8) da_nil))) da_nil))))) (dss_one (ds_expr (de_append (i := 7) (da_val (de_tup (da_val (de_var 8) (da_val (de_cb (call_min2 rfl) ok_min2 T.b_min (by decide +kernel) (da_cons (de_sub (de_var 10) de_int) (da_cons (de_var 2) da_nil))) da_nil))) da_nil)))) dss_nil)
      (dss_one (ds_asg (i := 8) sc_open_spells.nd (de_var 10)))))))
      (dss_one (ds_ret (de_call ((ok_joined (P := P) (w := w) (base := base) T).mono (k := 3) (by decide)) hr T.g_joined T.F_joined.kp T.B_joined (da_val (de_var 7) da_nil))))))))
theorem ok_common_times (T : Top K mg) : FnOk P w K mg base CX0 5 T.a_common_times T.d_common_times ["persons", "start", "end"] (spL K b_common_times 6 3) := fn_ok (N := N_common_times) (k := 4) T.F_common_times sc_common_times (by decide) fun cdv A outer s H E hr =>
      (dss_cons (ds_expr (de_call ((ok_check_persons (P := P) (w := w) (base := base) T).mono (k := 4) (by decide)) hr T.g_check_persons T.F_check_persons.kp T.B_check_persons (da_val (de_var 0) (da_val (de_var 1) (da_val (de_var 2) da_nil)))))
      (dss_cons (ds_asg (i := 3) sc_common_times.nd (de_lst (da_val (de_tup (da_val (de_var 1) (da_val (de_var 2) da_nil))) da_nil)))
      (dss_cons (ds_for PassesOwn.never rfl (di_any (de_var 0)) (dg_name 4 sc_common_times.nd) (dss_cons (ds_asg (i := 5) sc_common_times.nd (de_call ((ok_both (P := P) (w := w) (base := base) T).mono (k := 4) (by decide)) hr T.g_both T.F_both.kp T.B_both (da_val (de_call ((ok_open_spells (P := P) (w := w) (base := base) T).mono (k := 4) (by decide)) hr T.g_open_spells T.F_open_spells.kp T.B_open_spells (da_val (de_var 4) (da_val (de_var 1) (da_val (de_var 2) da_nil)))) (da_val (de_call ((ok_free_spells (P := P) (w := w) (base := base) T).mono (k := 4) (by decide)) hr T.g_free_spells T.F_free_spells.kp T.B_free_spells (da_val (de_ix (de_var 4) de_int) (da_val (de_var 1) (da_val (de_var 2) da_nil)))) da_nil))))
      (dss_one (ds_asg (i := 3) sc_common_times.nd (de_call ((ok_both (P := P) (w := w) (base := base) T).mono (k := 4) (by decide)) hr T.g_both T.F_both.kp T.B_both (da_val (de_var 3) (da_val (de_var 5) da_nil)))))))
      (dss_one (ds_ret (de_var 3))))))
theorem ok_first_common (T : Top K mg) : FnOk P w K mg base CX0 6 T.a_first_common T.d_first_common ["persons", "start", "end", "length"] (spL K b_first_common 6 4) := fn_ok (N := N_first_common) (k := 5) T.F_first_common sc_first_common (by decide) fun cdv A outer s H E hr =>
      (dss_cons (ds_for PassesOwn.never rfl (di_any (de_call ((ok_common_times (P := P) (w := w) (base := base) T).mono (k := 5) (by decide)) hr T.g_common_times T.F_common_times.kp T.B_common_times (da_val (de_var 0) (da_val (de_var 1) (da_val (de_var 2) da_nil))))) (dg_tup rfl (dgs_cons (dg_name 4 sc_first_common.nd) (dgs_cons (dg_name 5 sc_first_common.nd) dgs_nil))) (dss_one (ds_if (dt_cmp op_ge ok_ge (de_add (de_sub (de_var 5) (de_var 4)) de_int) (de_var 3) (nomark _)) (dss_one (ds_ret (de_var 4))) dss_nil)))
      (dss_one (ds_ret de_non)))
theorem ok__law_take (T : Top K mg) : FnOk P w K mg base CX0 1 T.a__law_take T.d__law_take ["draws", "limit"] (spL K b__law_take 2 2) := fn_ok (N := N__law_take) (k := 0) T.F__law_take sc__law_take (by decide) fun cdv A outer s H E hr =>
      (dss_cons (ds_if (dt_cmp (op_eqD hr.units) ok_eq (de_cb call_lenA ok_len T.b_len (by decide +kernel) (da_cons (de_var 0) da_nil)) de_int (nomark _)) (dss_one (ds_ret de_int)) dss_nil)
      (dss_one (ds_ret (de_mod (de_ct call_int1 ok_int T.b_int (by decide +kernel) (da_cons (de_pop (i := 0)) da_nil)) (de_var 1)))))
theorem ok__law_spells (T : Top K mg) : FnOk P w K mg base CX0 2 T.a__law_spells T.d__law_spells ["draws"] (spL K b__law_spells 5 1) := fn_ok (N := N__law_spells) (k := 1) T.F__law_spells sc__law_spells (by decide) fun cdv A outer s H E hr =>
      (dss_cons (ds_par2 (i := 1) (j := 2) rfl sc__law_spells.nd (dk_cons (de_lst da_nil) (dk_cons (de_call ((ok__law_take (P := P) (w := w) (base := base) T).mono (k := 1) (by decide)) hr T.g__law_take T.F__law_take.kp T.B__law_take (da_lend 0 (da_val de_int da_nil))) dk_nil)))
      (dss_cons (ds_for PassesOwn.never rfl (di_range1 T.b_range (da_val (de_call ((ok__law_take (P := P) (w := w) (base := base) T).mono (k := 1) (by decide)) hr T.g__law_take T.F__law_take.kp T.B__law_take (da_lend 0 (da_val de_int da_nil))) da_nil)) (dg_name 3 sc__law_spells.nd) (dss_cons (ds_asg (i := 4) sc__law_spells.nd (de_add (de_var 2) (de_call ((ok__law_take (P := P) (w := w) (base := base) T).mono (k := 1) (by decide)) hr T.g__law_take T.F__law_take.kp T.B__law_take (da_lend 0 (da_val de_int da_nil)))))
      (dss_cons (ds_expr (de_append (i := 1) (da_val (de_tup (da_val (de_var 2) (da_val (de_var 4) da_nil))) da_nil)))
      (dss_one (ds_asg (i := 2) sc__law_spells.nd (de_add (de_add (de_var 4) de_int) (de_call ((ok__law_take (P := P) (w := w) (base := base) T).mono (k := 1) (by decide)) hr T.g__law_take T.F__law_take.kp T.B__law_take (da_lend 0 (da_val de_int da_nil)))))))))
      (dss_one (ds_ret (de_var 1)))))
theorem ok_rest (T : Top K mg) : FnOk P w K mg base CX0 1 T.a_rest T.d_rest ["spells", "start", "end"] (spL K b_rest 8 3) := fn_ok (N := N_rest) (k := 0) T.F_rest sc_rest (by decide) fun cdv A outer s H E hr =>
      (dss_cons (ds_asg (i := 3) sc_rest.nd (de_lst da_nil))
      (dss_cons (ds_asg (i := 4) sc_rest.nd (de_var 1))
      (dss_cons (ds_for PassesOwn.never rfl (di_any (de_var 0)) (dg_tup rfl (dgs_cons (dg_name 5 sc_rest.nd) (dgs_cons (dg_name 6 sc_rest.nd) dgs_nil))) (dss_cons (ds_if (dt_cmp op_gt ok_gt (de_var 5) (de_var 4) (nomark _)) (dss_one (ds_expr (de_append (i := 3) (da_val (de_tup (da_val (de_var 4) (da_val (de_cb (call_min2 rfl) ok_min2 T.b_min (by decide +kernel) (da_cons (de_sub (de_var 5) de_int) (da_cons (de_var 2) da_nil))) da_nil))) da_nil)))) dss_nil)
      (dss_one (ds_asg (i := 4) sc_rest.nd (de_cb (call_max2 rfl) ok_max2 T.b_max (by decide +kernel) (da_cons (de_var 4) (da_cons (de_add (de_var 6) de_int) da_nil)))))))
      (dss_cons (ds_if (dt_cmp op_le ok_le (de_var 4) (de_var 2) (nomark _)) (dss_one (ds_expr (de_append (i := 3) (da_val (de_tup (da_val (de_var 4) (da_val (de_var 2) da_nil))) da_nil)))) dss_nil)
      (dss_one (ds_ret (de_lc (own := [((Str.ofString "spell"), 7)]) rfl sc_rest.nd (di_any (de_var 3)) (blkOk_by (N := N_rest) (sc := defScope s_rest) (by decide +kernel)) (fun _ _ _ _ _ => (dg_name 7 sc_rest.nd)) (fun _ _ _ _ _ => (dts_one (dt_cmp op_le ok_le (de_ix (de_var 7) de_int) (de_ix (de_var 7) de_int) (nomark _)))) (fun _ _ _ _ _ => (de_var 7)))))))))
theorem ok_either (T : Top K mg) : FnOk P w K mg base CX0 2 T.a_either T.d_either ["first", "second"] (spL K b_either 2 2) := fn_ok (N := N_either) (k := 1) T.F_either sc_either (by decide) fun cdv A outer s H E hr =>
      (dss_one (ds_ret (de_call ((ok_joined (P := P) (w := w) (base := base) T).mono (k := 1) (by decide)) hr T.g_joined T.F_joined.kp T.B_joined (da_val (de_cb (call_sortedB rfl) ok_sortedB T.b_sorted (by decide +kernel) (da_cons (de_add (de_ct call_list_of ok_list T.b_list (by decide +kernel) (da_cons (de_var 0) da_nil)) (de_ct call_list_of ok_list T.b_list (by decide +kernel) (da_cons (de_var 1) da_nil))) da_nil)) da_nil))))
theorem ok__law_ticks (T : Top K mg) : FnOk P w K mg base CX0 1 T.a__law_ticks T.d__law_ticks ["spells"] (spL K b__law_ticks 4 1) := fn_ok (N := N__law_ticks) (k := 0) T.F__law_ticks sc__law_ticks (by decide) fun cdv A outer s H E hr =>
      (dss_cons (ds_asg (i := 1) sc__law_ticks.nd (de_lst da_nil))
      (dss_cons (ds_for PassesOwn.never rfl (di_any (de_var 0)) (dg_tup rfl (dgs_cons (dg_name 2 sc__law_ticks.nd) (dgs_cons (dg_name 3 sc__law_ticks.nd) dgs_nil))) (dss_one (ds_asg (i := 1) sc__law_ticks.nd (de_add (de_var 1) (de_listRg2 rfl T.b_list T.b_range (de_var 2) (de_add (de_var 3) de_int))))))
      (dss_one (ds_ret (de_var 1)))))
theorem ok__law_is_right (T : Top K mg) : FnOk P w K mg base CX0 1 T.a__law_is_right T.d__law_is_right ["spells"] (spL K b__law_is_right 4 1) := fn_ok (N := N__law_is_right) (k := 0) T.F__law_is_right sc__law_is_right (by decide) fun cdv A outer s H E hr =>
      (dss_one (ds_ret (de_and (de_cmp (op_eqD hr.units) ok_eq (de_cb call_lenA ok_len T.b_len (by decide +kernel) (da_cons (de_lc (own := [((Str.ofString "begin"), 2), ((Str.ofString "end"), 3)]) rfl sc__law_is_right.nd (di_any (de_var 0)) (blkOk_by (N := N__law_is_right) (sc := defScope s__law_is_right) (by decide +kernel)) (fun _ _ _ _ _ => (dg_tup rfl (dgs_cons (dg_name 2 sc__law_is_right.nd) (dgs_cons (dg_name 3 sc__law_is_right.nd) dgs_nil)))) (fun _ _ _ _ _ => (dts_one (dt_cmp op_gt ok_gt (de_var 2) (de_var 3) (nomark _)))) (fun _ _ _ _ _ => de_int)) da_nil)) de_int (nomark _)) (de_one (de_cmp (op_eqD hr.units) ok_eq (de_cb call_lenA ok_len T.b_len (by decide +kernel) (da_cons (de_lc (own := [((Str.ofString "k"), 1)]) rfl sc__law_is_right.nd (di_range1 T.b_range (da_val (de_sub (de_cb call_lenA ok_len T.b_len (by decide +kernel) (da_cons (de_var 0) da_nil)) de_int) da_nil)) (blkOk_by (N := N__law_is_right) (sc := defScope s__law_is_right) (by decide +kernel)) (fun _ _ _ _ _ => (dg_name 1 sc__law_is_right.nd)) (fun _ _ _ _ _ => (dts_one (dt_cmp op_lt ok_lt (de_ix (de_ix (de_var 0) (de_add (de_var 1) de_int)) de_int) (de_add (de_ix (de_ix (de_var 0) (de_var 1)) de_int) de_int) (nomark _)))) (fun _ _ _ _ _ => de_int)) da_nil)) de_int (nomark _))))))
theorem ok_law (T : Top K mg) : FnOk P w K mg base CX0 7 T.a_law T.d_law ["script"] (spL K b_law 27 1) := fn_ok (N := N_law) (k := 6) T.F_law sc_law (by decide) fun cdv A outer s H E hr =>
      (dss_cons (ds_asg (i := 1) sc_law.nd (de_call ((ok__law_draws (P := P) (w := w) (base := base) T).mono (k := 6) (by decide)) hr T.g__law_draws T.F__law_draws.kp T.B__law_draws (da_lend 0 (da_val de_int da_nil))))
      (dss_cons (ds_for PassesOwn.never rfl (di_range1 T.b_range (da_val de_int da_nil)) (dg_name 2 sc_law.nd) (dss_cons (ds_par3 (i := 10) (j := 11) (l := 12) rfl sc_law.nd (dk_cons (de_call ((ok__law_spells (P := P) (w := w) (base := base) T).mono (k := 6) (by decide)) hr T.g__law_spells T.F__law_spells.kp T.B__law_spells (da_lend 1 da_nil)) (dk_cons (de_call ((ok__law_spells (P := P) (w := w) (base := base) T).mono (k := 6) (by decide)) hr T.g__law_spells T.F__law_spells.kp T.B__law_spells (da_lend 1 da_nil)) (dk_cons (de_call ((ok__law_spells (P := P) (w := w) (base := base) T).mono (k := 6) (by decide)) hr T.g__law_spells T.F__law_spells.kp T.B__law_spells (da_lend 1 da_nil)) dk_nil))))
      (dss_cons (ds_par2 (i := 13) (j := 14) rfl sc_law.nd (dk_cons (de_call ((ok__law_take (P := P) (w := w) (base := base) T).mono (k := 6) (by decide)) hr T.g__law_take T.F__law_take.kp T.B__law_take (da_lend 1 (da_val de_int da_nil))) (dk_cons (de_add de_int (de_call ((ok__law_take (P := P) (w := w) (base := base) T).mono (k := 6) (by decide)) hr T.g__law_take T.F__law_take.kp T.B__law_take (da_lend 1 (da_val de_int da_nil)))) dk_nil)))
      (dss_cons (ds_par2 (i := 15) (j := 16) rfl sc_law.nd (dk_cons (de_call ((ok_rest (P := P) (w := w) (base := base) T).mono (k := 6) (by decide)) hr T.g_rest T.F_rest.kp T.B_rest (da_val (de_var 10) (da_val (de_var 13) (da_val (de_var 14) da_nil)))) (dk_cons (de_call ((ok_rest (P := P) (w := w) (base := base) T).mono (k := 6) (by decide)) hr T.g_rest T.F_rest.kp T.B_rest (da_val (de_var 11) (da_val (de_var 13) (da_val (de_var 14) da_nil)))) dk_nil)))
      (dss_cons (ds_for PassesOwn.never rfl (di_any (de_tup (da_val (de_call ((ok_both (P := P) (w := w) (base := base) T).mono (k := 6) (by decide)) hr T.g_both T.F_both.kp T.B_both (da_val (de_var 10) (da_val (de_var 11) da_nil))) (da_val (de_call ((ok_either (P := P) (w := w) (base := base) T).mono (k := 6) (by decide)) hr T.g_either T.F_either.kp T.B_either (da_val (de_var 10) (da_val (de_var 11) da_nil))) (da_val (de_var 15) (da_val (de_call ((ok_both (P := P) (w := w) (base := base) T).mono (k := 6) (by decide)) hr T.g_both T.F_both.kp T.B_both (da_val (de_var 15) (da_val (de_var 16) da_nil))) da_nil)))))) (dg_name 3 sc_law.nd) (dss_one (ds_if (dt_not (dt_truth (de_call ((ok__law_is_right (P := P) (w := w) (base := base) T).mono (k := 6) (by decide)) hr T.g__law_is_right T.F__law_is_right.kp T.B__law_is_right (da_val (de_var 3) da_nil)))) (dss_one (ds_ret de_bl)) dss_nil)))
      (dss_cons (ds_asgG (de_tup (da_val (de_call ((ok__law_ticks (P := P) (w := w) (base := base) T).mono (k := 6) (by decide)) hr T.g__law_ticks T.F__law_ticks.kp T.B__law_ticks (da_val (de_var 10) da_nil)) (da_val (de_call ((ok__law_ticks (P := P) (w := w) (base := base) T).mono (k := 6) (by decide)) hr T.g__law_ticks T.F__law_ticks.kp T.B__law_ticks (da_val (de_var 11) da_nil)) da_nil))) (dg_tup rfl (dgs_cons (dg_name 17 sc_law.nd) (dgs_cons (dg_name 18 sc_law.nd) dgs_nil))))
      (dss_cons (ds_if (dt_w (dw_or (dt_cmp (op_neD hr.units) ok_ne (de_call ((ok__law_ticks (P := P) (w := w) (base := base) T).mono (k := 6) (by decide)) hr T.g__law_ticks T.F__law_ticks.kp T.B__law_ticks (da_val (de_call ((ok_both (P := P) (w := w) (base := base) T).mono (k := 6) (by decide)) hr T.g_both T.F_both.kp T.B_both (da_val (de_var 10) (da_val (de_var 11) da_nil))) da_nil)) (de_lc (own := [((Str.ofString "tick"), 22)]) rfl sc_law.nd (di_any (de_var 17)) (blkOk_by (N := N_law) (sc := defScope s_law) (by decide +kernel)) (fun _ _ _ _ _ => (dg_name 22 sc_law.nd)) (fun _ _ _ _ _ => (dts_one (dt_cmp op_in_seq ok_in (de_var 22) (de_var 18) (by rfl)))) (fun _ _ _ _ _ => (de_var 22))) (nomark _)) (dw_or1 (dt_cmp (op_neD hr.units) ok_ne (de_call ((ok__law_ticks (P := P) (w := w) (base := base) T).mono (k := 6) (by decide)) hr T.g__law_ticks T.F__law_ticks.kp T.B__law_ticks (da_val (de_call ((ok_either (P := P) (w := w) (base := base) T).mono (k := 6) (by decide)) hr T.g_either T.F_either.kp T.B_either (da_val (de_var 10) (da_val (de_var 11) da_nil))) da_nil)) (de_cb (call_sortedB rfl) ok_sortedB T.b_sorted (by decide +kernel) (da_last (de_ct (call_dictP rfl) ok_dict T.b_dict (by decide +kernel) (da_cons (de_lc (own := [((Str.ofString "tick"), 22)]) rfl sc_law.nd (di_any (de_add (de_var 17) (de_var 18))) (blkOk_by (N := N_law) (sc := defScope s_law) (by decide +kernel)) (fun _ _ _ _ _ => (dg_name 22 sc_law.nd)) (fun _ _ _ _ _ => dts_nil) (fun _ _ _ _ _ => (de_tup (da_val (de_var 22) (da_val de_bl da_nil))))) da_nil)))) (nomark _))))) (dss_one (ds_ret de_bl)) dss_nil)
      (dss_cons (ds_asg (i := 4) sc_law.nd (de_lst (da_val (de_tup (da_val (de_var 13) (da_val (de_var 14) da_nil))) da_nil)))
      (dss_cons (ds_if (dt_w (dw_or (dt_cmp (op_neD hr.units) ok_ne (de_call ((ok_rest (P := P) (w := w) (base := base) T).mono (k := 6) (by decide)) hr T.g_rest T.F_rest.kp T.B_rest (da_val (de_call ((ok_both (P := P) (w := w) (base := base) T).mono (k := 6) (by decide)) hr T.g_both T.F_both.kp T.B_both (da_val (de_var 10) (da_val (de_var 11) da_nil))) (da_val (de_var 13) (da_val (de_var 14) da_nil)))) (de_call ((ok_either (P := P) (w := w) (base := base) T).mono (k := 6) (by decide)) hr T.g_either T.F_either.kp T.B_either (da_val (de_var 15) (da_val (de_var 16) da_nil))) (nomark _)) (dw_or (dt_cmp (op_neD hr.units) ok_ne (de_call ((ok_rest (P := P) (w := w) (base := base) T).mono (k := 6) (by decide)) hr T.g_rest T.F_rest.kp T.B_rest (da_val (de_call ((ok_either (P := P) (w := w) (base := base) T).mono (k := 6) (by decide)) hr T.g_either T.F_either.kp T.B_either (da_val (de_var 10) (da_val (de_var 11) da_nil))) (da_val (de_var 13) (da_val (de_var 14) da_nil)))) (de_call ((ok_both (P := P) (w := w) (base := base) T).mono (k := 6) (by decide)) hr T.g_both T.F_both.kp T.B_both (da_val (de_var 15) (da_val (de_var 16) da_nil))) (nomark _)) (dw_or1 (dt_cmp (op_neD hr.units) ok_ne (de_call ((ok_rest (P := P) (w := w) (base := base) T).mono (k := 6) (by decide)) hr T.g_rest T.F_rest.kp T.B_rest (da_val (de_var 15) (da_val (de_var 13) (da_val (de_var 14) da_nil)))) (de_call ((ok_both (P := P) (w := w) (base := base) T).mono (k := 6) (by decide)) hr T.g_both T.F_both.kp T.B_both (da_val (de_var 10) (da_val (de_var 4) da_nil))) (nomark _)))))) (dss_one (ds_ret de_bl)) dss_nil)
      (dss_cons (ds_if (dt_w (dw_or (dt_cmp (op_neD hr.units) ok_ne (de_call ((ok_both (P := P) (w := w) (base := base) T).mono (k := 6) (by decide)) hr T.g_both T.F_both.kp T.B_both (da_val (de_var 10) (da_val (de_call ((ok_either (P := P) (w := w) (base := base) T).mono (k := 6) (by decide)) hr T.g_either T.F_either.kp T.B_either (da_val (de_var 11) (da_val (de_var 12) da_nil))) da_nil))) (de_call ((ok_either (P := P) (w := w) (base := base) T).mono (k := 6) (by decide)) hr T.g_either T.F_either.kp T.B_either (da_val (de_call ((ok_both (P := P) (w := w) (base := base) T).mono (k := 6) (by decide)) hr T.g_both T.F_both.kp T.B_both (da_val (de_var 10) (da_val (de_var 11) da_nil))) (da_val (de_call ((ok_both (P := P) (w := w) (base := base) T).mono (k := 6) (by decide)) hr T.g_both T.F_both.kp T.B_both (da_val (de_var 10) (da_val (de_var 12) da_nil))) da_nil))) (nomark _)) (dw_or1 (dt_cmp (op_neD hr.units) ok_ne (de_call ((ok_either (P := P) (w := w) (base := base) T).mono (k := 6) (by decide)) hr T.g_either T.F_either.kp T.B_either (da_val (de_var 10) (da_val (de_call ((ok_both (P := P) (w := w) (base := base) T).mono (k := 6) (by decide)) hr T.g_both T.F_both.kp T.B_both (da_val (de_var 11) (da_val (de_var 12) da_nil))) da_nil))) (de_call ((ok_both (P := P) (w := w) (base := base) T).mono (k := 6) (by decide)) hr T.g_both T.F_both.kp T.B_both (da_val (de_call ((ok_either (P := P) (w := w) (base := base) T).mono (k := 6) (by decide)) hr T.g_either T.F_either.kp T.B_either (da_val (de_var 10) (da_val (de_var 11) da_nil))) (da_val (de_call ((ok_either (P := P) (w := w) (base := base) T).mono (k := 6) (by decide)) hr T.g_either T.F_either.kp T.B_either (da_val (de_var 10) (da_val (de_var 12) da_nil))) da_nil))) (nomark _))))) (dss_one (ds_ret de_bl)) dss_nil)
      (dss_cons (ds_if (dt_w (dw_or (dt_cmp (op_neD hr.units) ok_ne (de_add (de_call ((ok_length (P := P) (w := w) (base := base) T).mono (k := 6) (by decide)) hr T.g_length T.F_length.kp T.B_length (da_val (de_call ((ok_both (P := P) (w := w) (base := base) T).mono (k := 6) (by decide)) hr T.g_both T.F_both.kp T.B_both (da_val (de_var 10) (da_val (de_var 11) da_nil))) da_nil)) (de_call ((ok_length (P := P) (w := w) (base := base) T).mono (k := 6) (by decide)) hr T.g_length T.F_length.kp T.B_length (da_val (de_call ((ok_either (P := P) (w := w) (base := base) T).mono (k := 6) (by decide)) hr T.g_either T.F_either.kp T.B_either (da_val (de_var 10) (da_val (de_var 11) da_nil))) da_nil))) (de_add (de_call ((ok_length (P := P) (w := w) (base := base) T).mono (k := 6) (by decide)) hr T.g_length T.F_length.kp T.B_length (da_val (de_var 10) da_nil)) (de_call ((ok_length (P := P) (w := w) (base := base) T).mono (k := 6) (by decide)) hr T.g_length T.F_length.kp T.B_length (da_val (de_var 11) da_nil))) (nomark _)) (dw_or1 (dt_cmp (op_neD hr.units) ok_ne (de_add (de_call ((ok_length (P := P) (w := w) (base := base) T).mono (k := 6) (by decide)) hr T.g_length T.F_length.kp T.B_length (da_val (de_var 15) da_nil)) (de_call ((ok_length (P := P) (w := w) (base := base) T).mono (k := 6) (by decide)) hr T.g_length T.F_length.kp T.B_length (da_val (de_call ((ok_both (P := P) (w := w) (base := base) T).mono (k := 6) (by decide)) hr T.g_both T.F_both.kp T.B_both (da_val (de_var 10) (da_val (de_var 4) da_nil))) da_nil))) (de_add (de_sub (de_var 14) (de_var 13)) de_int) (nomark _))))) (dss_one (ds_ret de_bl)) dss_nil)
      (dss_cons (ds_par2 (i := 19) (j := 20) rfl sc_law.nd (dk_cons (de_ct call_tuple_of ok_tuple T.b_tuple (by decide +kernel) (da_cons (de_lc (own := [((Str.ofString "p"), 25), ((Str.ofString "q"), 26)]) rfl sc_law.nd (di_any (de_var 10)) (blkOk_by (N := N_law) (sc := defScope s_law) (by decide +kernel)) (fun _ _ _ _ _ => (dg_tup rfl (dgs_cons (dg_name 25 sc_law.nd) (dgs_cons (dg_name 26 sc_law.nd) dgs_nil)))) (fun _ _ _ _ _ => dts_nil) (fun _ _ _ _ _ => (de_tup (da_val (de_var 25) (da_val (de_add (de_var 26) de_int) da_nil))))) da_nil)) (dk_cons (de_ct call_tuple_of ok_tuple T.b_tuple (by decide +kernel) (da_cons (de_lc (own := [((Str.ofString "p"), 25), ((Str.ofString "q"), 26)]) rfl sc_law.nd (di_any (de_var 11)) (blkOk_by (N := N_law) (sc := defScope s_law) (by decide +kernel)) (fun _ _ _ _ _ => (dg_tup rfl (dgs_cons (dg_name 25 sc_law.nd) (dgs_cons (dg_name 26 sc_law.nd) dgs_nil)))) (fun _ _ _ _ _ => dts_nil) (fun _ _ _ _ _ => (de_tup (da_val (de_var 25) (da_val (de_add (de_var 26) de_int) da_nil))))) da_nil)) dk_nil)))
      (dss_cons (ds_asg (i := 5) sc_law.nd (de_call ((ok_free_spells (P := P) (w := w) (base := base) T).mono (k := 6) (by decide)) hr T.g_free_spells T.F_free_spells.kp T.B_free_spells (da_val (de_var 19) (da_val (de_var 13) (da_val (de_var 14) da_nil)))))
      (dss_cons (ds_if (dt_w (dw_or (dt_cmp (op_neD hr.units) ok_ne (de_var 5) (de_var 15) (nomark _)) (dw_or (dt_cmp (op_neD hr.units) ok_ne (de_call ((ok_free_spells (P := P) (w := w) (base := base) T).mono (k := 6) (by decide)) hr T.g_free_spells T.F_free_spells.kp T.B_free_spells (da_val (de_add (de_var 19) (de_var 20)) (da_val (de_var 13) (da_val (de_var 14) da_nil)))) (de_call ((ok_both (P := P) (w := w) (base := base) T).mono (k := 6) (by decide)) hr T.g_both T.F_both.kp T.B_both (da_val (de_var 15) (da_val (de_var 16) da_nil))) (nomark _)) (dw_or1 (dt_cmp (op_neD hr.units) ok_ne (de_call ((ok_free_spells (P := P) (w := w) (base := base) T).mono (k := 6) (by decide)) hr T.g_free_spells T.F_free_spells.kp T.B_free_spells (da_val (de_add (de_var 19) (de_var 19)) (da_val (de_var 13) (da_val (de_var 14) da_nil)))) (de_var 15) (nomark _)))))) (dss_one (ds_ret de_bl)) dss_nil)
      (dss_cons (ds_asgG (de_tup (da_val (de_add de_int (de_call ((ok__law_take (P := P) (w := w) (base := base) T).mono (k := 6) (by decide)) hr T.g__law_take T.F__law_take.kp T.B__law_take (da_lend 1 (da_val de_int da_nil)))) (da_val (de_add (de_var 13) (de_call ((ok__law_take (P := P) (w := w) (base := base) T).mono (k := 6) (by decide)) hr T.g__law_take T.F__law_take.kp T.B__law_take (da_lend 1 (da_val de_int da_nil)))) da_nil))) (dg_tup rfl (dgs_cons (dg_name 21 sc_law.nd) (dgs_cons (dg_name 22 sc_law.nd) dgs_nil))))
      (dss_cons (ds_asg (i := 6) sc_law.nd (de_call ((ok_first_gap (P := P) (w := w) (base := base) T).mono (k := 6) (by decide)) hr T.g_first_gap T.F_first_gap.kp T.B_first_gap (da_val (de_add (de_var 19) (de_var 20)) (da_val (de_var 22) (da_val (de_var 21) da_nil)))))
      (dss_cons (ds_lc (i := 7) (own := [((Str.ofString "p"), 25), ((Str.ofString "q"), 26)]) rfl sc_law.nd (di_any (de_call ((ok_rest (P := P) (w := w) (base := base) T).mono (k := 6) (by decide)) hr T.g_rest T.F_rest.kp T.B_rest (da_val (de_call ((ok_either (P := P) (w := w) (base := base) T).mono (k := 6) (by decide)) hr T.g_either T.F_either.kp T.B_either (da_val (de_var 10) (da_val (de_var 11) da_nil))) (da_val (de_var 22) (da_val de_int da_nil))))) (blkOk_by (N := N_law) (sc := defScope s_law) (by decide +kernel)) (fun _ _ _ _ _ => (dg_tup rfl (dgs_cons (dg_name 25 sc_law.nd) (dgs_cons (dg_name 26 sc_law.nd) dgs_nil)))) (fun _ _ _ _ _ => (dts_one (dt_cmp op_ge ok_ge (de_add (de_sub (de_var 26) (de_cb (call_max2 rfl) ok_max2 T.b_max (by decide +kernel) (da_cons (de_var 25) (da_cons (de_var 22) da_nil)))) de_int) (de_var 21) (nomark _)))) (fun _ _ _ _ _ => (de_cb (call_max2 rfl) ok_max2 T.b_max (by decide +kernel) (da_cons (de_var 25) (da_cons (de_var 22) da_nil)))))
      (dss_cons (ds_if (dt_cmp (op_neD hr.units) ok_ne (de_var 6) (de_ix (de_var 7) de_int) (nomark _)) (dss_one (ds_ret de_bl)) dss_nil)
      (dss_cons (ds_asgG (de_tup (da_val (de_tup (da_val de_int (da_val (de_tup (da_val (de_tup (da_val de_int (da_val de_int da_nil))) da_nil)) da_nil))) (da_val (de_tup (da_val (de_tup (da_val de_int (da_val de_int da_nil))) da_nil)) da_nil))) (dg_tup rfl (dgs_cons (dg_name 23 sc_law.nd) (dgs_cons (dg_name 24 sc_law.nd) dgs_nil))))
      (dss_cons (ds_asg (i := 8) sc_law.nd (de_tup (da_val (de_tup (da_val (de_var 23) (da_val (de_var 24) (da_val (de_lst da_nil) (da_val (de_var 19) da_nil))))) (da_val (de_tup (da_val (de_tup (da_val de_int (da_val (de_tup da_nil) da_nil))) (da_val (de_var 24) (da_val (de_lst da_nil) (da_val (de_var 20) da_nil))))) da_nil))))
      (dss_cons (ds_if (dt_cmp (op_neD hr.units) ok_ne (de_call ((ok_common_times (P := P) (w := w) (base := base) T).mono (k := 6) (by decide)) hr T.g_common_times T.F_common_times.kp T.B_common_times (da_val (de_var 8) (da_val (de_var 13) (da_val (de_var 14) da_nil)))) (de_call ((ok_both (P := P) (w := w) (base := base) T).mono (k := 6) (by decide)) hr T.g_both T.F_both.kp T.B_both (da_val (de_var 15) (da_val (de_var 16) da_nil))) (nomark _)) (dss_one (ds_ret de_bl)) dss_nil)
      (dss_cons (ds_asg (i := 9) sc_law.nd (de_call ((ok_first_common (P := P) (w := w) (base := base) T).mono (k := 6) (by decide)) hr T.g_first_common T.F_first_common.kp T.B_first_common (da_val (de_var 8) (da_val (de_var 13) (da_val (de_var 14) (da_val (de_var 21) da_nil))))))
      (dss_one (ds_if (dt_w (dw_or (dt_w (dw_and (dt_cmp op_notN ok_notN (de_var 9) de_non (nomark _)) (dw_and1 (dt_cmp (op_neD hr.units) ok_ne (de_var 9) (de_call ((ok_first_gap (P := P) (w := w) (base := base) T).mono (k := 6) (by decide)) hr T.g_first_gap T.F_first_gap.kp T.B_first_gap (da_val (de_add (de_var 19) (de_var 20)) (da_val (de_var 13) (da_val (de_var 21) da_nil)))) (nomark _))))) (dw_or1 (dt_w (dw_and (dt_cmp op_isN ok_isN (de_var 9) de_non (nomark _)) (dw_and1 (dt_cmp op_le ok_le (de_sub (de_add (de_call ((ok_first_gap (P := P) (w := w) (base := base) T).mono (k := 6) (by decide)) hr T.g_first_gap T.F_first_gap.kp T.B_first_gap (da_val (de_add (de_var 19) (de_var 20)) (da_val (de_var 13) (da_val (de_var 21) da_nil)))) (de_var 21)) de_int) (de_var 14) (nomark _)))))))) (dss_one (ds_ret de_bl)) dss_nil))))))))))))))))))))))))
      (dss_one (ds_ret de_bl))))
end
end K80

namespace K80
open DL (sortP SortedP)
/-! ### spells, in plain Lean -/
abbrev Sp := List (Int × Int)
/-- a tick lies in a spell of the list -/
def Inn (ps : Sp) (t : Int) : Prop := ∃ p ∈ ps, p.1 ≤ t ∧ t ≤ p.2
theorem inn_nil {t : Int} : Inn [] t ↔ False := ⟨fun ⟨_, h, _⟩ => by simp at h, False.elim⟩
theorem inn_cons {p : Int × Int} {ps : Sp} {t : Int} : Inn (p :: ps) t ↔ (p.1 ≤ t ∧ t ≤ p.2) ∨ Inn ps t := by
  unfold Inn
  simp
theorem inn_append {a b : Sp} {t : Int} : Inn (a ++ b) t ↔ Inn a t ∨ Inn b t := by
  induction a with
  | nil => simp [inn_nil]
  | cons p a ih => rw [List.cons_append, inn_cons, inn_cons, ih, or_assoc]
theorem inn_perm {a b : Sp} (h : a.Perm b) {t : Int} : Inn a t ↔ Inn b t := by
  unfold Inn
  constructor
  · rintro ⟨p, hp, h2⟩
    exact ⟨p, h.mem_iff.mp hp, h2⟩
  · rintro ⟨p, hp, h2⟩
    exact ⟨p, h.mem_iff.mpr hp, h2⟩
/-- in order, apart, none empty -/
def Nm : Sp → Prop
  | [] => True
  | p :: ps => p.1 ≤ p.2 ∧ (∀ q ∈ ps, p.2 + 2 ≤ q.1) ∧ Nm ps
/-- in order of starts, none empty -/
def Sr : Sp → Prop
  | [] => True
  | p :: ps => p.1 ≤ p.2 ∧ (∀ q ∈ ps, p.1 ≤ q.1) ∧ Sr ps
theorem Nm.val {ps : Sp} (h : Nm ps) : ∀ p ∈ ps, p.1 ≤ p.2 := by
  induction ps with
  | nil => intro p hp; simp at hp
  | cons q ps ih =>
    intro p hp
    rcases List.mem_cons.mp hp with rfl | hp
    · exact h.1
    · exact ih h.2.2 p hp
theorem Sr.val {ps : Sp} (h : Sr ps) : ∀ p ∈ ps, p.1 ≤ p.2 := by
  induction ps with
  | nil => intro p hp; simp at hp
  | cons q ps ih =>
    intro p hp
    rcases List.mem_cons.mp hp with rfl | hp
    · exact h.1
    · exact ih h.2.2 p hp
theorem Nm.sr {ps : Sp} (h : Nm ps) : Sr ps := by
  induction ps with
  | nil => trivial
  | cons p ps ih => exact ⟨h.1, fun q hq => by have := h.2.1 q hq; have := h.1; omega, ih h.2.2⟩
theorem nm_append {a b : Sp} (ha : Nm a) (hb : Nm b) (h : ∀ p ∈ a, ∀ q ∈ b, p.2 + 2 ≤ q.1) : Nm (a ++ b) := by
  induction a with
  | nil => exact hb
  | cons p a ih =>
    refine ⟨ha.1, fun q hq => ?_, ih ha.2.2 fun x hx => h x (List.mem_cons_of_mem _ hx)⟩
    rcases List.mem_append.mp hq with hq | hq
    · exact ha.2.1 q hq
    · exact h p List.mem_cons_self q hq
theorem not_inn_behind {p : Int × Int} {ps : Sp} (h : Nm (p :: ps)) {t : Int} (ht : t ≤ p.2 + 1) : ¬ Inn ps t := by
  rintro ⟨q, hq, h1, h2⟩
  have := h.2.1 q hq
  omega
theorem nm_ext : ∀ {a b : Sp}, Nm a → Nm b → (∀ t, Inn a t ↔ Inn b t) → a = b
  | [], [], _, _, _ => rfl
  | [], q :: b, _, hb, h => absurd ((h q.1).mpr (inn_cons.mpr (.inl ⟨Int.le_refl _, hb.1⟩))) (fun x => inn_nil.mp x)
  | p :: a, [], ha, _, h => absurd ((h p.1).mp (inn_cons.mpr (.inl ⟨Int.le_refl _, ha.1⟩))) (fun x => inn_nil.mp x)
  | p :: a, q :: b, ha, hb, h => by
    have h1 : q.1 ≤ p.1 := by
      rcases inn_cons.mp ((h p.1).mp (inn_cons.mpr (.inl ⟨Int.le_refl _, ha.1⟩))) with x | ⟨y, hy, x⟩
      · exact x.1
      · have := hb.2.1 y hy
        have := hb.1
        omega
    have h2 : p.1 ≤ q.1 := by
      rcases inn_cons.mp ((h q.1).mpr (inn_cons.mpr (.inl ⟨Int.le_refl _, hb.1⟩))) with x | ⟨y, hy, x⟩
      · exact x.1
      · have := ha.2.1 y hy
        have := ha.1
        omega
    have h3 : ¬ p.2 < q.2 := fun hlt => by
      have : Inn (p :: a) (p.2 + 1) := (h (p.2 + 1)).mpr (inn_cons.mpr (.inl ⟨by have := ha.1; omega, by omega⟩))
      rcases inn_cons.mp this with x | x
      · omega
      · exact not_inn_behind ha (Int.le_refl _) x
    have h4 : ¬ q.2 < p.2 := fun hlt => by
      have : Inn (q :: b) (q.2 + 1) := (h (q.2 + 1)).mp (inn_cons.mpr (.inl ⟨by have := hb.1; omega, by omega⟩))
      rcases inn_cons.mp this with x | x
      · omega
      · exact not_inn_behind hb (Int.le_refl _) x
    have e : p = q := Prod.ext (by omega) (by omega)
    subst e
    have : a = b := nm_ext ha.2.2 hb.2.2 fun t => by
      have ht := h t
      rw [inn_cons, inn_cons] at ht
      constructor
      · intro x
        rcases ht.mp (.inr x) with y | y
        · exact absurd x (not_inn_behind ha (by omega))
        · exact y
      · intro x
        rcases ht.mpr (.inr x) with y | y
        · exact absurd x (not_inn_behind hb (by omega))
        · exact y
    rw [this]
/-! joined -/
def jn : (Int × Int) → Sp → Sp
  | cur, [] => [cur]
  | cur, p :: ps => if p.1 ≤ cur.2 + 1 then jn (cur.1, if cur.2 > p.2 then cur.2 else p.2) ps else cur :: jn p ps
def joinedF : Sp → Sp
  | [] => []
  | p :: ps => jn p ps
theorem jn_spec : ∀ (ps : Sp) (cur : Int × Int), cur.1 ≤ cur.2 → (∀ q ∈ ps, cur.1 ≤ q.1) → Sr ps → Nm (jn cur ps) ∧ (∀ q ∈ jn cur ps, cur.1 ≤ q.1) ∧ ∀ t, Inn (jn cur ps) t ↔ Inn (cur :: ps) t
  | [], cur, h, _, _ => by
    unfold jn
    exact ⟨⟨h, fun _ hq => by simp at hq, trivial⟩, fun q hq => by rw [List.mem_singleton.mp hq]; exact Int.le_refl _, fun t => Iff.rfl⟩
  | p :: ps, cur, h, hs, hr => by
    unfold jn
    have hp := hs p List.mem_cons_self
    by_cases hc : p.1 ≤ cur.2 + 1
    · rw [if_pos hc]
      obtain ⟨i1, i2, i3⟩ := jn_spec ps (cur.1, if cur.2 > p.2 then cur.2 else p.2) (by dsimp only; split <;> omega) (fun q hq => hs q (List.mem_cons_of_mem _ hq)) hr.2.2
      refine ⟨i1, i2, fun t => ?_⟩
      rw [i3, inn_cons, inn_cons, inn_cons]
      dsimp only
      have := hr.1
      constructor
      · rintro (x | x)
        · split at x
          · exact .inl ⟨x.1, by omega⟩
          · by_cases ht : t ≤ cur.2
            · exact .inl ⟨x.1, ht⟩
            · exact .inr (.inl ⟨by omega, by omega⟩)
        · exact .inr (.inr x)
      · rintro (x | x | x)
        · exact .inl ⟨x.1, by split <;> omega⟩
        · exact .inl ⟨by omega, by split <;> omega⟩
        · exact .inr x
    · rw [if_neg hc]
      obtain ⟨i1, i2, i3⟩ := jn_spec ps p hr.1 hr.2.1 hr.2.2
      refine ⟨⟨h, fun q hq => by have := i2 q hq; omega, i1⟩, fun q hq => ?_, fun t => ?_⟩
      · rcases List.mem_cons.mp hq with rfl | hq
        · exact Int.le_refl _
        · have := i2 q hq
          omega
      · rw [inn_cons, i3, inn_cons (p := cur)]
theorem joined_spec {ps : Sp} (h : Sr ps) : Nm (joinedF ps) ∧ ∀ t, Inn (joinedF ps) t ↔ Inn ps t := by
  cases ps with
  | nil => exact ⟨trivial, fun _ => Iff.rfl⟩
  | cons p ps =>
    have := jn_spec ps p h.1 h.2.1 h.2.2
    exact ⟨this.1, this.2.2⟩
theorem jn_len : ∀ (ps : Sp) (cur : Int × Int), (jn cur ps).length ≤ ps.length + 1
  | [], cur => by unfold jn; simp
  | p :: ps, cur => by
    unfold jn
    split
    · have := jn_len ps (cur.1, if cur.2 > p.2 then cur.2 else p.2)
      simp only [List.length_cons] at this ⊢
      omega
    · have := jn_len ps p
      simp only [List.length_cons] at this ⊢
      omega
theorem joined_len (ps : Sp) : (joinedF ps).length ≤ ps.length := by
  cases ps with
  | nil => exact Nat.le_refl _
  | cons p ps => exact jn_len ps p
/-! both -/
def mx (a b : Int) : Int := if b > a then b else a
def mn (a b : Int) : Int := if b < a then b else a
def pc (p q : Int × Int) : Sp := if mx p.1 q.1 ≤ mn p.2 q.2 then [(mx p.1 q.1, mn p.2 q.2)] else []
def bt : Sp → Sp → Sp
  | [], _ => []
  | _ :: _, [] => []
  | p :: a, q :: b => pc p q ++ (if p.2 < q.2 then bt a (q :: b) else bt (p :: a) b)
termination_by a b => a.length + b.length
theorem bt_nl (b : Sp) : bt [] b = [] := by unfold bt; rfl
theorem bt_nr (a : Sp) : bt a [] = [] := by cases a <;> (unfold bt; rfl)
theorem bt_cc (p q : Int × Int) (a b : Sp) : bt (p :: a) (q :: b) = pc p q ++ (if p.2 < q.2 then bt a (q :: b) else bt (p :: a) b) := by rw [bt]
theorem bt_ind {P : Sp → Sp → Prop} (case1 : ∀ b, P [] b) (case2 : ∀ p a, P (p :: a) []) (case3 : ∀ p a q b, p.2 < q.2 → P a (q :: b) → P (p :: a) (q :: b)) (case4 : ∀ p a q b, ¬ p.2 < q.2 → P (p :: a) b → P (p :: a) (q :: b)) : ∀ (a b : Sp), P a b
  | [], b => case1 b
  | p :: a, [] => case2 p a
  | p :: a, q :: b => if h : p.2 < q.2 then case3 p a q b h (bt_ind case1 case2 case3 case4 a (q :: b)) else case4 p a q b h (bt_ind case1 case2 case3 case4 (p :: a) b)
termination_by a b => a.length + b.length
theorem mx_le {a b c : Int} : mx a b ≤ c ↔ a ≤ c ∧ b ≤ c := by unfold mx; split <;> omega
theorem le_mn {a b c : Int} : c ≤ mn a b ↔ c ≤ a ∧ c ≤ b := by unfold mn; split <;> omega
theorem inn_pc {p q : Int × Int} {t : Int} : Inn (pc p q) t ↔ (p.1 ≤ t ∧ t ≤ p.2) ∧ (q.1 ≤ t ∧ t ≤ q.2) := by
  unfold pc
  split
  · rw [inn_cons]
    dsimp only
    rw [mx_le, le_mn]
    constructor
    · rintro (x | x)
      · omega
      · exact absurd x (fun y => inn_nil.mp y)
    · intro x
      exact .inl (by omega)
  · rename_i h
    constructor
    · intro x
      exact absurd x (fun y => inn_nil.mp y)
    · intro x
      refine absurd ?_ h
      have h1 : mx p.1 q.1 ≤ t := mx_le.mpr (by omega)
      have h2 : t ≤ mn p.2 q.2 := le_mn.mpr (by omega)
      omega
theorem sr_append {a b : Sp} (ha : Sr a) (hb : Sr b) (h : ∀ p ∈ a, ∀ q ∈ b, p.1 ≤ q.1) : Sr (a ++ b) := by
  induction a with
  | nil => exact hb
  | cons p a ih =>
    refine ⟨ha.1, fun q hq => ?_, ih ha.2.2 fun x hx => h x (List.mem_cons_of_mem _ hx)⟩
    rcases List.mem_append.mp hq with hq | hq
    · exact ha.2.1 q hq
    · exact h p List.mem_cons_self q hq
theorem bt_ge (a b : Sp) (k : Int) : (∀ p ∈ a, k ≤ p.1) ∨ (∀ q ∈ b, k ≤ q.1) → ∀ x ∈ bt a b, k ≤ x.1 := by
  intro h x hx
  induction a, b using bt_ind with
  | case1 b => unfold bt at hx; simp at hx
  | case2 p a => unfold bt at hx; simp at hx
  | case3 p a q b hlt ih =>
    unfold bt at hx
    rw [if_pos hlt] at hx
    rcases List.mem_append.mp hx with hx | hx
    · unfold pc at hx
      split at hx
      · rw [List.mem_singleton.mp hx]
        have h1 := mx_le.mp (Int.le_refl (mx p.1 q.1))
        rcases h with h | h
        · have := h p List.mem_cons_self
          dsimp only
          omega
        · have := h q List.mem_cons_self
          dsimp only
          omega
      · simp at hx
    · refine ih ?_ hx
      rcases h with h | h
      · exact .inl fun y hy => h y (List.mem_cons_of_mem _ hy)
      · exact .inr h
  | case4 p a q b hlt ih =>
    unfold bt at hx
    rw [if_neg hlt] at hx
    rcases List.mem_append.mp hx with hx | hx
    · unfold pc at hx
      split at hx
      · rw [List.mem_singleton.mp hx]
        have h1 := mx_le.mp (Int.le_refl (mx p.1 q.1))
        rcases h with h | h
        · have := h p List.mem_cons_self
          dsimp only
          omega
        · have := h q List.mem_cons_self
          dsimp only
          omega
      · simp at hx
    · refine ih ?_ hx
      rcases h with h | h
      · exact .inl h
      · exact .inr fun y hy => h y (List.mem_cons_of_mem _ hy)
theorem sr_pc {p q : Int × Int} : Sr (pc p q) := by
  unfold pc
  split
  · rename_i h
    exact ⟨h, fun _ hq => by simp at hq, trivial⟩
  · trivial
theorem bt_spec (a b : Sp) (ha : Nm a) (hb : Nm b) : Sr (bt a b) ∧ ∀ t, Inn (bt a b) t ↔ Inn a t ∧ Inn b t := by
  induction a, b using bt_ind with
  | case1 b => unfold bt; exact ⟨trivial, fun t => by simp [inn_nil]⟩
  | case2 p a => unfold bt; exact ⟨trivial, fun t => by simp [inn_nil]⟩
  | case3 p a q b hlt ih =>
    obtain ⟨i1, i2⟩ := ih ha.2.2 hb
    have h0 := ha.1
    have h9 := hb.1
    unfold bt
    rw [if_pos hlt]
    refine ⟨sr_append sr_pc i1 fun x hx y hy => ?_, fun t => ?_⟩
    · unfold pc at hx
      split at hx
      · rename_i hm
        have h1 := le_mn.mp hm
        rw [List.mem_singleton.mp hx]
        have := bt_ge a (q :: b) (p.2 + 2) (.inl ha.2.1) y hy
        dsimp only
        omega
      · simp at hx
    · rw [inn_append, inn_pc, i2, inn_cons (p := p), inn_cons]
      constructor
      · rintro (x | x)
        · exact ⟨.inl x.1, .inl x.2⟩
        · exact ⟨.inr x.1, x.2⟩
      · rintro ⟨x | x, y | y⟩
        · exact .inl ⟨x, y⟩
        · exact absurd y (not_inn_behind hb (by omega))
        · exact .inr ⟨x, .inl y⟩
        · exact .inr ⟨x, .inr y⟩
  | case4 p a q b hlt ih =>
    obtain ⟨i1, i2⟩ := ih ha hb.2.2
    have h0 := ha.1
    have h9 := hb.1
    unfold bt
    rw [if_neg hlt]
    refine ⟨sr_append sr_pc i1 fun x hx y hy => ?_, fun t => ?_⟩
    · unfold pc at hx
      split at hx
      · rename_i hm
        have h1 := le_mn.mp hm
        rw [List.mem_singleton.mp hx]
        have := bt_ge (p :: a) b (q.2 + 2) (.inr hb.2.1) y hy
        dsimp only
        omega
      · simp at hx
    · rw [inn_append, inn_pc, i2, inn_cons (p := p), inn_cons (p := q)]
      constructor
      · rintro (x | x)
        · exact ⟨.inl x.1, .inl x.2⟩
        · exact ⟨x.1, .inr x.2⟩
      · rintro ⟨x | x, y | y⟩
        · exact .inl ⟨x, y⟩
        · exact .inr ⟨.inl x, y⟩
        · exact absurd x (not_inn_behind ha (by omega))
        · exact .inr ⟨.inr x, y⟩
theorem bt_len (a b : Sp) : (bt a b).length ≤ a.length + b.length := by
  induction a, b using bt_ind with
  | case1 b => unfold bt; simp
  | case2 p a => unfold bt; simp
  | case3 p a q b hlt ih =>
    unfold bt
    rw [if_pos hlt, List.length_append]
    unfold pc
    simp only [List.length_cons] at ih ⊢
    split <;> simp only [List.length_cons, List.length_nil] <;> omega
  | case4 p a q b hlt ih =>
    unfold bt
    rw [if_neg hlt, List.length_append]
    unfold pc
    simp only [List.length_cons] at ih ⊢
    split <;> simp only [List.length_cons, List.length_nil] <;> omega
def bothF (a b : Sp) : Sp := joinedF (bt a b)
theorem both_spec {a b : Sp} (ha : Nm a) (hb : Nm b) : Nm (bothF a b) ∧ ∀ t, Inn (bothF a b) t ↔ Inn a t ∧ Inn b t := by
  have h := bt_spec a b ha hb
  have h2 := joined_spec h.1
  exact ⟨h2.1, fun t => (h2.2 t).trans (h.2 t)⟩
/-! either -/
theorem sr_sortP {ps : Sp} (h : ∀ p ∈ ps, p.1 ≤ p.2) : Sr (sortP ps) := by
  have hm : ∀ p ∈ sortP ps, p.1 ≤ p.2 := fun p hp => h p ((DL.sortP_perm ps).mem_iff.mp hp)
  have hs := DL.sortP_sorted ps
  revert hm hs
  generalize sortP ps = qs
  intro hm hs
  induction qs with
  | nil => trivial
  | cons q qs ih =>
    have hs := List.pairwise_cons.mp hs
    refine ⟨hm q List.mem_cons_self, fun x hx => ?_, ih (fun x hx => hm x (List.mem_cons_of_mem _ hx)) hs.2⟩
    have := DL.leP_iff.mp (hs.1 x hx)
    omega
def eitherF (a b : Sp) : Sp := joinedF (sortP (a ++ b))
theorem either_spec {a b : Sp} (ha : Nm a) (hb : Nm b) : Nm (eitherF a b) ∧ ∀ t, Inn (eitherF a b) t ↔ Inn a t ∨ Inn b t := by
  have h : Sr (sortP (a ++ b)) := sr_sortP fun p hp => by
    rcases List.mem_append.mp hp with hp | hp
    · exact ha.val p hp
    · exact hb.val p hp
  have h2 := joined_spec h
  exact ⟨h2.1, fun t => (h2.2 t).trans ((inn_perm (DL.sortP_perm _)).trans inn_append)⟩
/-! rest -/
def rs (e : Int) : Int → Sp → Sp
  | k, [] => if k ≤ e then [(k, e)] else []
  | k, p :: ps => (if p.1 > k then [(k, mn (p.1 - 1) e)] else []) ++ rs e (mx k (p.2 + 1)) ps
def okS (p : Int × Int) : Bool := decide (p.1 ≤ p.2)
def restF (ps : Sp) (s e : Int) : Sp := (rs e s ps).filter okS
theorem rs_ge (e : Int) : ∀ (ps : Sp) (k : Int), ∀ x ∈ rs e k ps, k ≤ x.1
  | [], k, x, hx => by
    unfold rs at hx
    split at hx
    · rw [List.mem_singleton.mp hx]; exact Int.le_refl _
    · simp at hx
  | p :: ps, k, x, hx => by
    unfold rs at hx
    rcases List.mem_append.mp hx with hx | hx
    · split at hx
      · rw [List.mem_singleton.mp hx]; exact Int.le_refl _
      · simp at hx
    · have := rs_ge e ps _ x hx
      have := (mx_le.mp (Int.le_refl (mx k (p.2 + 1))))
      omega
theorem rs_spec (e : Int) : ∀ (ps : Sp) (k : Int), Sr ps → Nm ((rs e k ps).filter okS) ∧ ∀ t, Inn ((rs e k ps).filter okS) t ↔ k ≤ t ∧ t ≤ e ∧ ¬ Inn ps t
  | [], k, _ => by
    unfold rs
    by_cases h : k ≤ e
    · rw [if_pos h, List.filter_cons_of_pos (by unfold okS; exact decide_eq_true h), List.filter_nil]
      refine ⟨⟨h, fun _ hq => by simp at hq, trivial⟩, fun t => ?_⟩
      simp only [inn_cons, inn_nil, or_false, not_false_eq_true, and_true]
    · rw [if_neg h, List.filter_nil]
      refine ⟨trivial, fun t => ?_⟩
      simp only [inn_nil, false_iff]
      omega
  | p :: ps, k, h => by
    obtain ⟨i1, i2⟩ := rs_spec e ps (mx k (p.2 + 1)) h.2.2
    have hv := h.1
    have hmx : ∀ t, mx k (p.2 + 1) ≤ t ↔ k ≤ t ∧ p.2 + 1 ≤ t := fun t => mx_le
    have hbe : ∀ t, t < p.1 → ¬ Inn ps t := fun t ht ⟨q, hq, x, _⟩ => by have := h.2.1 q hq; omega
    unfold rs
    rw [List.filter_append]
    by_cases hk : p.1 > k
    · rw [if_pos hk]
      by_cases ho : k ≤ mn (p.1 - 1) e
      · rw [List.filter_cons_of_pos (by unfold okS; exact decide_eq_true ho), List.filter_nil]
        have hm := le_mn.mp ho
        refine ⟨nm_append ⟨ho, fun _ hq => by simp at hq, trivial⟩ i1 fun x hx y hy => ?_, fun t => ?_⟩
        · rw [List.mem_singleton.mp hx]
          have := rs_ge e ps _ y ((List.mem_filter.mp hy).1)
          have := mx_le.mp this
          have := (le_mn.mp (Int.le_refl (mn (p.1 - 1) e))).1
          dsimp only
          omega
        · rw [inn_append, inn_cons, i2, inn_cons, hmx]
          dsimp only
          rw [le_mn]
          constructor
          · rintro ((x | x) | x)
            · refine ⟨by omega, by omega, ?_⟩
              rintro (y | y)
              · omega
              · exact hbe t (by omega) y
            · exact absurd x (fun y => inn_nil.mp y)
            · refine ⟨by omega, by omega, ?_⟩
              rintro (y | y)
              · omega
              · exact x.2.2 y
          · rintro ⟨x, y, z⟩
            by_cases ht : t < p.1
            · exact .inl (.inl (by omega))
            · refine .inr ⟨?_, y, fun w => z (.inr w)⟩
              by_cases ht2 : t ≤ p.2
              · exact absurd (.inl ⟨by omega, ht2⟩) z
              · omega
      · rw [List.filter_cons_of_neg (by unfold okS; simpa using ho), List.filter_nil, List.nil_append]
        have hm : ¬ k ≤ e := fun x => ho (le_mn.mpr (by omega))
        refine ⟨i1, fun t => ?_⟩
        rw [i2, hmx]
        constructor
        · rintro ⟨x, y, _⟩
          omega
        · rintro ⟨x, y, _⟩
          omega
    · rw [if_neg hk, List.filter_nil, List.nil_append]
      refine ⟨i1, fun t => ?_⟩
      rw [i2, inn_cons, hmx]
      constructor
      · rintro ⟨x, y, z⟩
        refine ⟨by omega, y, ?_⟩
        rintro (w | w)
        · omega
        · exact z w
      · rintro ⟨x, y, z⟩
        refine ⟨?_, y, fun w => z (.inr w)⟩
        by_cases ht2 : t ≤ p.2
        · exact absurd (.inl ⟨by omega, ht2⟩) z
        · omega
theorem rest_spec {ps : Sp} (h : Sr ps) (s e : Int) : Nm (restF ps s e) ∧ ∀ t, Inn (restF ps s e) t ↔ s ≤ t ∧ t ≤ e ∧ ¬ Inn ps t := rs_spec e ps s h
end K80

namespace K80
open DL (sortP SortedP sortI)
open L2 (Key)
/-! ### ticks -/
def rg (lo hi : Int) : List Int := (List.range (hi - lo).toNat).map fun (i : Nat) => lo + (i : Int)
theorem mem_rg {lo hi t : Int} : t ∈ rg lo hi ↔ lo ≤ t ∧ t < hi := by
  unfold rg
  rw [List.mem_map]
  constructor
  · rintro ⟨i, hi', rfl⟩
    have := List.mem_range.mp hi'
    omega
  · intro h
    exact ⟨(t - lo).toNat, List.mem_range.mpr (by omega), by omega⟩
theorem rg_sorted (lo hi : Int) : (rg lo hi).Pairwise (· < ·) := by
  unfold rg
  rw [List.pairwise_map]
  exact List.pairwise_lt_range.imp fun {a b} h => by omega
theorem rg_len (lo hi : Int) : (rg lo hi).length = (hi - lo).toNat := by
  unfold rg
  rw [List.length_map, List.length_range]
def tk (ps : Sp) : List Int := ps.flatMap fun p => rg p.1 (p.2 + 1)
theorem mem_tk {ps : Sp} {t : Int} : t ∈ tk ps ↔ Inn ps t := by
  unfold tk Inn
  rw [List.mem_flatMap]
  constructor
  · rintro ⟨p, hp, h⟩
    have := mem_rg.mp h
    exact ⟨p, hp, by omega⟩
  · rintro ⟨p, hp, h⟩
    exact ⟨p, hp, mem_rg.mpr (by omega)⟩
theorem tk_cons (p : Int × Int) (ps : Sp) : tk (p :: ps) = rg p.1 (p.2 + 1) ++ tk ps := rfl
theorem tk_sorted : ∀ {ps : Sp}, Nm ps → (tk ps).Pairwise (· < ·)
  | [], _ => List.Pairwise.nil
  | p :: ps, h => by
    rw [tk_cons, List.pairwise_append]
    refine ⟨rg_sorted _ _, tk_sorted h.2.2, fun x hx y hy => ?_⟩
    have h1 := mem_rg.mp hx
    have h2 := mem_tk.mp hy
    by_cases hc : y ≤ p.2 + 1
    · exact absurd h2 (not_inn_behind h hc)
    · omega
theorem sorted_ext : ∀ {a b : List Int}, a.Pairwise (· < ·) → b.Pairwise (· < ·) → (∀ t, t ∈ a ↔ t ∈ b) → a = b
  | [], [], _, _, _ => rfl
  | [], y :: b, _, _, h => absurd ((h y).mpr List.mem_cons_self) (by simp)
  | x :: a, [], _, _, h => absurd ((h x).mp List.mem_cons_self) (by simp)
  | x :: a, y :: b, ha, hb, h => by
    rw [List.pairwise_cons] at ha hb
    have h1 : x = y := by
      rcases List.mem_cons.mp ((h x).mp List.mem_cons_self) with e | e
      · exact e
      · rcases List.mem_cons.mp ((h y).mpr List.mem_cons_self) with f | f
        · exact f.symm
        · have := hb.1 x e
          have := ha.1 y f
          omega
    subst h1
    have : a = b := sorted_ext ha.2 hb.2 fun t => by
      constructor
      · intro ht
        rcases List.mem_cons.mp ((h t).mp (List.mem_cons_of_mem _ ht)) with e | e
        · have := ha.1 t ht
          omega
        · exact e
      · intro ht
        rcases List.mem_cons.mp ((h t).mpr (List.mem_cons_of_mem _ ht)) with e | e
        · have := hb.1 t ht
          omega
        · exact e
    rw [this]
theorem tk_both {a b : Sp} (ha : Nm a) (hb : Nm b) : tk (bothF a b) = (tk a).filter fun t => decide (t ∈ tk b) := by
  have h := both_spec ha hb
  refine sorted_ext (tk_sorted h.1) (List.Pairwise.filter _ (tk_sorted ha)) fun t => ?_
  rw [mem_tk, h.2, List.mem_filter, decide_eq_true_eq, mem_tk, mem_tk]
/-! keys -/
def dd : List Int → List Int → List Int
  | acc, [] => acc
  | acc, t :: ts => if t ∈ acc then dd acc ts else dd (acc ++ [t]) ts
theorem dd_spec : ∀ (ts acc : List Int), acc.Nodup → (dd acc ts).Nodup ∧ ∀ t, t ∈ dd acc ts ↔ t ∈ acc ∨ t ∈ ts
  | [], acc, h => by unfold dd; exact ⟨h, fun t => by simp⟩
  | x :: ts, acc, h => by
    unfold dd
    by_cases hx : x ∈ acc
    · rw [if_pos hx]
      obtain ⟨i1, i2⟩ := dd_spec ts acc h
      refine ⟨i1, fun t => ?_⟩
      rw [i2, List.mem_cons]
      constructor
      · rintro (q | q)
        · exact .inl q
        · exact .inr (.inr q)
      · rintro (q | rfl | q)
        · exact .inl q
        · exact .inl hx
        · exact .inr q
    · rw [if_neg hx]
      obtain ⟨i1, i2⟩ := dd_spec ts (acc ++ [x]) (by
        rw [List.nodup_append]
        exact ⟨h, by simp, fun a ha b hb e => by rw [List.mem_singleton.mp hb] at e; exact hx (e ▸ ha)⟩)
      refine ⟨i1, fun t => ?_⟩
      rw [i2, List.mem_append, List.mem_singleton, List.mem_cons, or_assoc]
theorem merge_dd (d : DL.D) : ∀ (ts acc : List Int), DL.mergeKD (acc.map fun t => ((Sum.inl t : Key), d)) (ts.map fun t => ((Sum.inl t : Key), d)) = (dd acc ts).map fun t => ((Sum.inl t : Key), d)
  | [], acc => rfl
  | t :: ts, acc => by
    have e : DL.mergeKD (acc.map fun t => ((Sum.inl t : Key), d)) ((t :: ts).map fun t => ((Sum.inl t : Key), d)) = DL.mergeKD (DL.putKD (acc.map fun t => ((Sum.inl t : Key), d)) (Sum.inl t) d) (ts.map fun t => ((Sum.inl t : Key), d)) := rfl
    rw [e]
    unfold dd DL.putKD
    have hany : ((acc.map fun t => ((Sum.inl t : Key), d)).any fun kv => decide (kv.1 = Sum.inl t)) = decide (t ∈ acc) := by
      rw [List.any_map]
      apply Bool.eq_iff_iff.mpr
      rw [List.any_eq_true, decide_eq_true_eq]
      constructor
      · rintro ⟨x, hx, hq⟩
        have hq : (Sum.inl x : Key) = Sum.inl t := of_decide_eq_true hq
        cases hq
        exact hx
      · intro hx
        exact ⟨t, hx, decide_eq_true rfl⟩
    rw [hany]
    by_cases ht : t ∈ acc
    · rw [if_pos (decide_eq_true ht), if_pos ht]
      have : ((acc.map fun t => ((Sum.inl t : Key), d)).map fun kv => if kv.1 = Sum.inl t then (kv.1, d) else kv) = acc.map fun t => ((Sum.inl t : Key), d) := by
        rw [List.map_map]
        refine List.map_congr_left fun x _ => ?_
        show (if (Sum.inl x : Key) = Sum.inl t then ((Sum.inl x : Key), d) else ((Sum.inl x : Key), d)) = _
        split <;> rfl
      rw [this]
      exact merge_dd d ts acc
    · rw [if_neg (by rw [decide_eq_true_eq]; exact ht), if_neg ht]
      have : (acc.map fun t => ((Sum.inl t : Key), d)) ++ [((Sum.inl t : Key), d)] = (acc ++ [t]).map fun t => ((Sum.inl t : Key), d) := by rw [List.map_append]; rfl
      rw [this]
      exact merge_dd d ts (acc ++ [t])
theorem sortI_strict {l : List Int} (h : l.Nodup) : (sortI l).Pairwise (· < ·) := by
  have hs := DL.sortI_sorted l
  have hn : (sortI l).Nodup := (DL.sortI_perm l).nodup_iff.mpr h
  have := hs.and hn
  exact this.imp fun {a b} q => by
    have := q.1
    have := q.2
    omega
theorem tk_either {a b : Sp} (ha : Nm a) (hb : Nm b) : tk (eitherF a b) = sortI (dd [] (tk a ++ tk b)) := by
  have h := either_spec ha hb
  have hd := dd_spec (tk a ++ tk b) [] List.nodup_nil
  refine sorted_ext (tk_sorted h.1) (sortI_strict hd.1) fun t => ?_
  rw [mem_tk, h.2, (DL.sortI_perm _).mem_iff, hd.2, List.mem_append, mem_tk, mem_tk]
  simp
/-! lengths -/
def ln (ps : Sp) : Int := (ps.map fun p => p.2 - p.1 + 1).sum
theorem ln_tk : ∀ {ps : Sp}, (∀ p ∈ ps, p.1 ≤ p.2) → ln ps = (tk ps).length
  | [], _ => rfl
  | p :: ps, h => by
    have h1 := h p List.mem_cons_self
    have ih := ln_tk fun q hq => h q (List.mem_cons_of_mem _ hq)
    rw [tk_cons, List.length_append, rg_len]
    have e : ln (p :: ps) = (p.2 - p.1 + 1) + ln ps := rfl
    rw [e, ih]
    omega
theorem filter_law {α : Type} (p q : α → Bool) : ∀ l : List α, (l.filter p).length + (l.filter q).length = (l.filter fun x => p x && q x).length + (l.filter fun x => p x || q x).length
  | [] => rfl
  | x :: l => by
    have ih := filter_law p q l
    simp only [List.filter_cons]
    cases p x <;> cases q x <;> simp only [Bool.and_true, Bool.and_false, Bool.or_true, Bool.or_false, Bool.false_eq_true, if_true, if_false, List.length_cons, ↓reduceIte] <;> omega
/-- within the ticks that the law can see -/
def Bd (ps : Sp) : Prop := ∀ t, Inn ps t → 0 ≤ t ∧ t < 1000
def inb (ps : Sp) (t : Int) : Bool := decide (t ∈ tk ps)
theorem tk_window {ps : Sp} (h : Nm ps) (hb : Bd ps) : tk ps = (rg 0 1000).filter (inb ps) := by
  refine sorted_ext (tk_sorted h) (List.Pairwise.filter _ (rg_sorted _ _)) fun t => ?_
  unfold inb
  rw [List.mem_filter, decide_eq_true_eq, mem_rg]
  exact ⟨fun x => ⟨hb t (mem_tk.mp x), x⟩, fun x => x.2⟩
theorem len_law {p q r s : Sp} (hp : Nm p) (hq : Nm q) (hr : Nm r) (hs : Nm s) (bp : Bd p) (bq : Bd q) (h1 : ∀ t, Inn r t ↔ Inn p t ∧ Inn q t) (h2 : ∀ t, Inn s t ↔ Inn p t ∨ Inn q t) : ln p + ln q = ln r + ln s := by
  rw [ln_tk hp.val, ln_tk hq.val, ln_tk hr.val, ln_tk hs.val]
  have br : Bd r := fun t ht => bp t ((h1 t).mp ht).1
  have bs : Bd s := fun t ht => ((h2 t).mp ht).elim (bp t) (bq t)
  rw [tk_window hp bp, tk_window hq bq, tk_window hr br, tk_window hs bs]
  have e1 : (rg 0 1000).filter (inb r) = (rg 0 1000).filter fun t => inb p t && inb q t := List.filter_congr fun t _ => by
    unfold inb
    apply Bool.eq_iff_iff.mpr
    rw [Bool.and_eq_true, decide_eq_true_eq, decide_eq_true_eq, decide_eq_true_eq, mem_tk, mem_tk, mem_tk, h1]
  have e2 : (rg 0 1000).filter (inb s) = (rg 0 1000).filter fun t => inb p t || inb q t := List.filter_congr fun t _ => by
    unfold inb
    apply Bool.eq_iff_iff.mpr
    rw [Bool.or_eq_true, decide_eq_true_eq, decide_eq_true_eq, decide_eq_true_eq, mem_tk, mem_tk, mem_tk, h2]
  rw [e1, e2]
  have := filter_law (inb p) (inb q) (rg 0 1000)
  omega
/-! gaps -/
def Fr (U : Int → Prop) (n : Int) (s : Int) : Prop := ∀ t, s ≤ t → t < s + n → ¬ U t
/-- the least place from k on -/
def Lst (U : Int → Prop) (n k g : Int) : Prop := k ≤ g ∧ Fr U n g ∧ ∀ s, k ≤ s → s < g → ¬ Fr U n s
theorem Lst.uniq {U : Int → Prop} {n k g g' : Int} (h : Lst U n k g) (h' : Lst U n k g') : g = g' := by
  rcases Int.lt_trichotomy g g' with x | x | x
  · exact absurd h.2.1 (h'.2.2 g h.1 x)
  · exact x
  · exact absurd h'.2.1 (h.2.2 g' h'.1 x)
def gp (n : Int) : Int → Sp → Int
  | k, [] => k
  | k, p :: ps => if p.2 + 1 > k ∧ p.1 < k + n then gp n (p.2 + 1) ps else gp n k ps
theorem gp_stop {n : Int} : ∀ (ps : Sp) (k : Int), (∀ q ∈ ps, k + n ≤ q.1) → gp n k ps = k
  | [], k, _ => rfl
  | p :: ps, k, h => by
    unfold gp
    have := h p List.mem_cons_self
    rw [if_neg (by omega)]
    exact gp_stop ps k fun q hq => h q (List.mem_cons_of_mem _ hq)
theorem gp_spec {n : Int} (hn : 1 ≤ n) : ∀ (ps : Sp) (k : Int), Sr ps → Lst (Inn ps) n k (gp n k ps)
  | [], k, _ => ⟨Int.le_refl _, fun t _ _ h => inn_nil.mp h, fun s h1 h2 => by unfold gp at h2; omega⟩
  | p :: ps, k, h => by
    have hv := h.1
    unfold gp
    by_cases hc : p.2 + 1 > k ∧ p.1 < k + n
    · rw [if_pos hc]
      obtain ⟨i1, i2, i3⟩ := gp_spec hn ps (p.2 + 1) h.2.2
      refine ⟨by omega, fun t h1 h2 h3 => ?_, fun s h1 h2 => ?_⟩
      · rcases inn_cons.mp h3 with x | x
        · omega
        · exact i2 t h1 h2 x
      · by_cases hs : s < p.2 + 1
        · intro hf
          by_cases hs2 : s < p.1
          · exact hf p.1 (by omega) (by omega) (inn_cons.mpr (.inl ⟨by omega, by omega⟩))
          · exact hf s (by omega) (by omega) (inn_cons.mpr (.inl ⟨by omega, by omega⟩))
        · exact fun hf => i3 s (by omega) h2 fun t q1 q2 q3 => hf t q1 q2 (inn_cons.mpr (.inr q3))
    · rw [if_neg hc]
      by_cases hk : p.2 + 1 ≤ k
      · obtain ⟨i1, i2, i3⟩ := gp_spec hn ps k h.2.2
        refine ⟨i1, fun t h1 h2 h3 => ?_, fun s h1 h2 hf => i3 s h1 h2 fun t q1 q2 q3 => hf t q1 q2 (inn_cons.mpr (.inr q3))⟩
        rcases inn_cons.mp h3 with x | x
        · omega
        · exact i2 t h1 h2 x
      · have hst : ∀ q ∈ ps, k + n ≤ q.1 := fun q hq => by have := h.2.1 q hq; omega
        rw [gp_stop ps k hst]
        refine ⟨Int.le_refl _, fun t h1 h2 h3 => ?_, fun s h1 h2 => by omega⟩
        rcases inn_cons.mp h3 with x | ⟨q, hq, x⟩
        · omega
        · have := hst q hq
          omega
theorem run_in {n : Int} (hn : 1 ≤ n) : ∀ {ps : Sp} {s : Int}, Nm ps → (∀ t, s ≤ t → t < s + n → Inn ps t) → ∃ p ∈ ps, p.1 ≤ s ∧ s + n - 1 ≤ p.2
  | [], s, _, h => absurd (h s (Int.le_refl _) (by omega)) fun x => inn_nil.mp x
  | p :: ps, s, hp, h => by
    rcases inn_cons.mp (h s (Int.le_refl _) (by omega)) with x | x
    · by_cases hl : s + n - 1 ≤ p.2
      · exact ⟨p, List.mem_cons_self, x.1, hl⟩
      · rcases inn_cons.mp (h (p.2 + 1) (by omega) (by omega)) with y | y
        · omega
        · exact absurd y (not_inn_behind hp (Int.le_refl _))
    · have hs : ¬ s ≤ p.2 + 1 := fun q => not_inn_behind hp q x
      obtain ⟨q, hq, q1⟩ := run_in hn (ps := ps) (s := s) hp.2.2 fun t h1 h2 => by
        rcases inn_cons.mp (h t h1 h2) with y | y
        · omega
        · exact y
      exact ⟨q, List.mem_cons_of_mem _ hq, q1⟩
def lng (n : Int) (p : Int × Int) : Bool := decide (p.2 - p.1 + 1 ≥ n)
theorem find_some {n lo hi : Int} (hn : 1 ≤ n) {U : Int → Prop} : ∀ {ps : Sp} {p : Int × Int}, Nm ps → (∀ t, Inn ps t → lo ≤ t ∧ t ≤ hi ∧ ¬ U t) → ps.find? (lng n) = some p → p ∈ ps ∧ lng n p = true ∧ ∀ q ∈ ps, lng n q = true → p.1 ≤ q.1
  | q :: ps, p, h, hu, hf => by
    rw [List.find?_cons] at hf
    cases hq : lng n q with
    | true =>
      rw [hq] at hf
      cases hf
      refine ⟨List.mem_cons_self, hq, fun x hx _ => ?_⟩
      rcases List.mem_cons.mp hx with rfl | hx
      · exact Int.le_refl _
      · have := h.2.1 x hx
        have := h.1
        omega
    | false =>
      rw [hq] at hf
      obtain ⟨i1, i2, i3⟩ := find_some hn (ps := ps) h.2.2 (fun t ht => hu t (inn_cons.mpr (.inr ht))) hf
      refine ⟨List.mem_cons_of_mem _ i1, i2, fun x hx hl => ?_⟩
      rcases List.mem_cons.mp hx with rfl | hx
      · rw [hq] at hl; cases hl
      · exact i3 x hx hl
theorem find_lst {n lo hi : Int} (hn : 1 ≤ n) {U : Int → Prop} {ps : Sp} {p : Int × Int} (h : Nm ps) (hu : ∀ t, Inn ps t ↔ lo ≤ t ∧ t ≤ hi ∧ ¬ U t) (hf : ps.find? (lng n) = some p) : Lst U n lo p.1 := by
  obtain ⟨h1, h2, h3⟩ := find_some (lo := lo) (hi := hi) (U := U) hn h (fun t ht => (hu t).mp ht) hf
  have hl : p.2 - p.1 + 1 ≥ n := of_decide_eq_true h2
  have hin : ∀ t, p.1 ≤ t → t ≤ p.2 → Inn ps t := fun t a b => ⟨p, h1, a, b⟩
  refine ⟨((hu _).mp (hin p.1 (Int.le_refl _) (h.val p h1))).1, fun t a b => ((hu t).mp (hin t a (by omega))).2.2, fun s a b hfr => ?_⟩
  have hhi := ((hu _).mp (hin p.2 (h.val p h1) (Int.le_refl _))).2.1
  obtain ⟨q, hq, q1, q2⟩ := run_in hn h (s := s) fun t c d => (hu t).mpr ⟨by omega, by omega, hfr t c d⟩
  have := h3 q hq (decide_eq_true (by omega))
  omega
theorem find_none {n lo hi : Int} (hn : 1 ≤ n) {U : Int → Prop} {ps : Sp} (h : Nm ps) (hu : ∀ t, Inn ps t ↔ lo ≤ t ∧ t ≤ hi ∧ ¬ U t) (hf : ps.find? (lng n) = none) {s : Int} (h1 : lo ≤ s) (h2 : s + n - 1 ≤ hi) : ¬ Fr U n s := by
  intro hfr
  obtain ⟨q, hq, q1, q2⟩ := run_in hn h (s := s) fun t c d => (hu t).mpr ⟨by omega, by omega, hfr t c d⟩
  have := (List.find?_eq_none.mp hf) q hq
  exact this (decide_eq_true (by omega))
/-! bookings: the ends are one behind -/
def sh (p : Int × Int) : Int × Int := (p.1, p.2 + 1)
theorem sortP_sh (ps : Sp) : sortP (ps.map sh) = (sortP ps).map sh := by
  refine (DL.sortP_uniq ((DL.sortP_perm ps).map sh) ?_).symm
  refine List.pairwise_map.mpr ((DL.sortP_sorted ps).imp fun {p q} h => ?_)
  rw [DL.leP_iff] at h ⊢
  unfold sh
  dsimp only
  omega
end K80

namespace K80
open PySem PySem.Spec PyProof.Rows L2 DL

local macro_rules | `(tactic| walk_at "ev") => `(tactic| simp only [dVar_ap, dC_ap, dOp_ap, dNeg_ap, dTest_ap, dTruth_ap, hAnd_ap, hOr_ap, hNot_ap, hYes_ap, dAnd_ap, dOr_ap, dNot_ap, dIf_ap, dChain_ap, aNil_ap, aCons_ap, aVal_ap, aLend_ap, kNil_ap, kCons_ap, dCB_ap, dTup_ap, dLst_ap, dSl_ap, oNone_ap, oSome_ap, dMut_ap, dListScr_ap, dRgL_ap, twoI_ap, dLc_ap, dCallN_ap, dSkip_ap, dSeq_ap, dAsg_ap, dAsgG_ap, dExpr_ap, dRet_ap, dRetN_ap, dBrk_ap, dCnt_ap, dIfS_ap, dAug_ap, dSetI_ap, dFor_ap, dPar2_ap, dPar3_ap, iAny_ap, iRng1_ap, iRng2_ap, iZip_ap, gN_ap, gT_ap, gsNil_ap, gsCons_ap, forS_ap, retR_val, retR_new, retR_at, outs_nil, outs_val, List.map_cons, List.map_nil, List.cons_append, List.nil_append, List.reduceReplicate, Nat.reduceSub, Nat.reduceAdd, List.tail_cons, List.isEmpty_cons, List.isEmpty_nil, Bool.not_true, Bool.not_false,
  storeR_val, storeR_new, storeR_at, DL.settle_val, DL.settle_new, DL.settle_at, stab_val, stab_new, stab_at, dat_val, dat_new, dat_at, data_val, data_own, data_dic, keepS_val, keepS_new, keepS_at, dats_nil, dats_cons, vals_nil, vals_cons, ores_vl, ores_ls, ores_tp, ores_dc, argSl_nil, argSl_val, argSl_at, lentAt_nil, lentAt_val, lentAt_at, putBack_nil, putBack_val, tail_cons,
  gAdd_int, gSub_int, gLt_int, gLe_int, gGt_int, gGe_int, gEq_int, gNe_int, gIx_list, gIx_tuple, gLen_list, gLen_tuple, gMax2_int, gMin2_int, gInt_int, gInt_bool, gAbs_int, gList_list, gTuple_list, truD_list, truD_tuple, truD_bool, gRev_nil, gPopAt_zero, atI_zero, atI_one, atI_two, atI_last1, forL_nil,
  Option.bind_some, Option.bind_none, Option.join_some, List.getElem?_cons_zero, List.getElem?_cons_succ, List.set_cons_zero, List.set_cons_succ, List.length_cons, List.length_nil, ↓reduceIte, Bool.false_eq_true, gApp_if, aLast_ap, outs_ownA, outSl_own, outSl_scr, outs_scr, putBack_at, nodup_one, List.head?_cons, wipeE_nil, wipeE_cons, restE_nil, restE_cons, gSortedB_pairs, gSortedB_tuple, gSum_ints, gAll_bls, gAny_bls, Nat.reduceLeDiff, Nat.reduceLT, Int.reduceNeg, Nat.reduceMul, ne_snoc, set_snoc, DL.ixN_last, List.length_append, List.length_singleton, List.nodup_nil, true_and, and_true, decide_true, decide_false, Bool.and_true, Bool.and_false, Bool.true_and, Bool.false_and, Bool.or_true, Bool.or_false, Bool.true_or, Bool.false_or])
local macro_rules | `(tactic| walk_at "evs") => `(tactic| simp only [dVar_ap, dC_ap, dOp_ap, dNeg_ap, dTest_ap, dTruth_ap, hAnd_ap, hOr_ap, hNot_ap, hYes_ap, dAnd_ap, dOr_ap, dNot_ap, dIf_ap, dChain_ap, aNil_ap, aCons_ap, aVal_ap, aLend_ap, kNil_ap, kCons_ap, dCB_ap, dTup_ap, dLst_ap, dSl_ap, oNone_ap, oSome_ap, dMut_ap, dListScr_ap, dRgL_ap, twoI_ap, dLc_ap, dCallN_ap, dSkip_ap, dSeq_ap, dAsg_ap, dAsgG_ap, dExpr_ap, dRet_ap, dRetN_ap, dBrk_ap, dCnt_ap, dIfS_ap, dAug_ap, dSetI_ap, dFor_ap, dPar2_ap, dPar3_ap, iAny_ap, iRng1_ap, iRng2_ap, iZip_ap, gN_ap, gT_ap, gsNil_ap, gsCons_ap, forS_ap, retR_val, retR_new, retR_at, outs_nil, outs_val, List.map_cons, List.map_nil, List.cons_append, List.nil_append, List.reduceReplicate, Nat.reduceSub, Nat.reduceAdd, List.tail_cons, List.isEmpty_cons, List.isEmpty_nil, Bool.not_true, Bool.not_false,
  storeR_val, storeR_new, storeR_at, DL.settle_val, DL.settle_new, DL.settle_at, stab_val, stab_new, stab_at, dat_val, dat_new, dat_at, data_val, data_own, data_dic, keepS_val, keepS_new, keepS_at, dats_nil, dats_cons, vals_nil, vals_cons, ores_vl, ores_ls, ores_tp, ores_dc, argSl_nil, argSl_val, argSl_at, lentAt_nil, lentAt_val, lentAt_at, putBack_nil, putBack_val, tail_cons,
  gAdd_int, gSub_int, gLt_int, gLe_int, gGt_int, gGe_int, gEq_int, gNe_int, gIx_list, gIx_tuple, gLen_list, gLen_tuple, gMax2_int, gMin2_int, gInt_int, gInt_bool, gAbs_int, gList_list, gTuple_list, truD_list, truD_tuple, truD_bool, gRev_nil, gPopAt_zero, atI_zero, atI_one, atI_two, atI_last1, forL_nil,
  Option.bind_some, Option.bind_none, Option.join_some, List.getElem?_cons_zero, List.getElem?_cons_succ, List.set_cons_zero, List.set_cons_succ, List.length_cons, List.length_nil, ↓reduceIte, Bool.false_eq_true, gApp_if, aLast_ap, outs_ownA, outSl_own, outSl_scr, outs_scr, putBack_at, nodup_one, List.head?_cons, wipeE_nil, wipeE_cons, restE_nil, restE_cons, gSortedB_pairs, gSortedB_tuple, gSum_ints, gAll_bls, gAny_bls, Nat.reduceLeDiff, Nat.reduceLT, Int.reduceNeg, Nat.reduceMul, ne_snoc, set_snoc, DL.ixN_last, List.length_append, List.length_singleton, List.nodup_nil, true_and, and_true, decide_true, decide_false, Bool.and_true, Bool.and_false, Bool.true_and, Bool.false_and, Bool.or_true, Bool.or_false, Bool.true_or, Bool.false_or, *])
/-! ### the functions, at plain lists -/
abbrev prs (ps : Sp) : List D := ps.map prD
theorem prs_cons (p : Int × Int) (ps : Sp) : prs (p :: ps) = prD p :: prs ps := rfl
theorem prs_nil : prs [] = ([] : List D) := rfl
theorem prs_app (a b : Sp) : prs (a ++ b) = prs a ++ prs b := List.map_append
theorem prs_len (a : Sp) : (prs a).length = a.length := List.length_map ..
theorem prD_eq (a b : Int) : prD (a, b) = .tuple [.int a, .int b] := rfl
theorem joined_step {init : List D} {c1 c2 s e : Int} {v x y : Option Sl} (h : init.length < 1000000) :
    forS g_joined_1 l_joined_1 (prD (s, e)) [v, some (.own false (init ++ [prD (c1, c2)])), x, y] =
      some (.nx, [v, some (.own false (if s ≤ c2 + 1 then init ++ [prD (c1, if c2 > e then c2 else e)] else init ++ [prD (c1, c2)] ++ [prD (s, e)])), some (.val (.int s)), some (.val (.int e))]) := by
  unfold g_joined_1 l_joined_1
  simp only [prD_eq]
  have h : init.length + 1 < 16777216 := by omega
  by_cases hc : s ≤ c2 + 1
  · walk_at "evs"
  · walk_at "evs"
theorem joined_loop : ∀ (ps : Sp) (init : List D) (cur : Int × Int) (v x y : Option Sl), init.length + ps.length < 1000000 →
    ∃ x' y', forL g_joined_1 l_joined_1 (prs ps) [v, some (.own false (init ++ [prD cur])), x, y] = some (.nx, [v, some (.own false (init ++ prs (jn cur ps))), x', y'])
  | [], init, cur, v, x, y, _ => ⟨x, y, rfl⟩
  | (s, e) :: ps, init, (c1, c2), v, x, y, h => by
    rw [List.length_cons] at h
    rw [prs_cons, forL_nx (joined_step (by omega))]
    unfold jn
    dsimp only
    by_cases hc : s ≤ c2 + 1
    · rw [if_pos hc, if_pos hc]
      exact joined_loop ps init _ v _ _ (by omega)
    · rw [if_neg hc, if_neg hc]
      have := joined_loop ps (init ++ [prD (c1, c2)]) (s, e) v (some (.val (.int s))) (some (.val (.int e))) (by rw [List.length_append, List.length_singleton]; omega)
      rw [prs_cons, List.append_cons init (prD (c1, c2)) (prs (jn (s, e) ps))]
      exact this
theorem joined_step0 {s e : Int} {v x y : Option Sl} : forS g_joined_1 l_joined_1 (prD (s, e)) [v, some (.own false []), x, y] = some (.nx, [v, some (.own false ([] ++ [prD (s, e)])), some (.val (.int s)), some (.val (.int e))]) := by
  unfold g_joined_1 l_joined_1
  simp only [prD_eq]
  walk_at "ev"
theorem at_joined {ps : Sp} (h : ps.length < 1000000) : callF b_joined 4 [.val (.list (prs ps))] = some (.new (.own false (prs (joinedF ps))), [none]) := by
  rw [callF_ap]
  unfold b_joined
  walk_at "ev"
  cases ps with
  | nil =>
    simp only [prs, List.map_nil, forL_nil]
    walk_at "ev"
    rfl
  | cons p ps =>
    rw [prs_cons, forL_nx joined_step0]
    obtain ⟨x', y', e⟩ := joined_loop ps [] p (some (.val (.list (prD p :: prs ps)))) (some (.val (.int p.1))) (some (.val (.int p.2))) (by rw [List.length_cons] at h; rw [List.length_nil]; omega)
    have e : forL g_joined_1 l_joined_1 (prs ps) [some (.val (.list (prD p :: prs ps))), some (.own false ([] ++ [prD (p.1, p.2)])), some (.val (.int p.1)), some (.val (.int p.2))] = _ := e
    rw [e]
    walk_at "ev"
    rfl
theorem both_step {acc : List D} {p q : Int × Int} {a b : Sp} {v0 v1 x y : Option Sl} (h : acc.length < 1000000) :
    l_both_1 [v0, v1, some (.own false acc), some (.own false (prs (p :: a))), some (.own false (prs (q :: b))), x, y] =
      some (.nx, [v0, v1, some (.own false (acc ++ prs (pc p q))), some (.own false (if p.2 < q.2 then prs a else prs (p :: a))), some (.own false (if p.2 < q.2 then prs (q :: b) else prs b)), some (.val (.int (mx p.1 q.1))), some (.val (.int (mn p.2 q.2)))]) := by
  obtain ⟨p1, p2⟩ := p
  obtain ⟨q1, q2⟩ := q
  unfold l_both_1 pc mx mn
  have h : acc.length < 16777216 := by omega
  simp only [prs_cons, prD_eq]
  by_cases h1 : (if q1 > p1 then q1 else p1) ≤ (if q2 < p2 then q2 else p2)
  · by_cases h2 : p2 < q2
    · walk_at "evs"
      rfl
    · walk_at "evs"
      rfl
  · by_cases h2 : p2 < q2
    · walk_at "evs"
      simp only [prs, List.map_nil, List.append_nil]
    · walk_at "evs"
      simp only [prs, List.map_nil, List.append_nil]
theorem both_head {a l r : List D} {v0 v1 x y : Option Sl} : h_both_1 [v0, v1, some (.own false a), some (.own false l), some (.own false r), x, y] = some (!l.isEmpty && !r.isEmpty, [v0, v1, some (.own false a), some (.own false l), some (.own false r), x, y]) := by
  unfold h_both_1
  walk_at "ev"
  cases l with
  | nil => walk_at "ev"
  | cons d l => walk_at "ev"
theorem at_both {a b : Sp} (h : a.length + b.length < 1000000) : callF b_both 7 [.val (.list (prs a)), .val (.list (prs b))] = some (.new (.own false (prs (bothF a b))), [none, none]) := by
  rw [callF_ap]
  unfold b_both
  walk_at "ev"
  obtain ⟨fl, ρ', h1, h2⟩ := dWhile_rel (h := h_both_1) (b := l_both_1) (σ := Sp × Sp × Sp)
    (fun s ρ => (∃ x y, ρ = [some (.val (.list (prs a))), some (.val (.list (prs b))), some (.own false (prs s.1)), some (.own false (prs s.2.1)), some (.own false (prs s.2.2)), x, y]) ∧ s.1 ++ bt s.2.1 s.2.2 = bt a b ∧ s.1.length + s.2.1.length + s.2.2.length ≤ a.length + b.length)
    (fun s => s.2.1.length + s.2.2.length)
    (fun fl ρ => fl = .nx ∧ ∃ z w x y, ρ = [some (.val (.list (prs a))), some (.val (.list (prs b))), some (.own false (prs (bt a b))), z, w, x, y])
    (fun s ρ hS => by
      obtain ⟨⟨x, y, rfl⟩, hc, hl⟩ := hS
      obtain ⟨acc, l, r⟩ := s
      dsimp only at hc hl ⊢
      cases l with
      | nil =>
        rw [bt_nl, List.append_nil] at hc
        refine ⟨false, _, both_head, fun _ => ⟨rfl, _, _, x, y, by rw [hc]⟩, fun h => by cases h⟩
      | cons p l =>
        cases r with
        | nil =>
          rw [bt_nr, List.append_nil] at hc
          refine ⟨false, _, both_head, fun _ => ⟨rfl, _, _, x, y, by rw [hc]⟩, fun h => by cases h⟩
        | cons q r =>
          refine ⟨true, _, both_head, (fun h => by cases h), fun _ => ⟨.nx, _, both_step (by rw [prs_len]; simp only [List.length_cons] at hl; omega), ?_⟩⟩
          rw [bt_cc] at hc
          have hp : (pc p q).length ≤ 1 := by unfold pc; split <;> simp
          simp only [List.length_cons] at hl
          by_cases hlt : p.2 < q.2
          · rw [if_pos hlt] at hc
            refine ⟨(acc ++ pc p q, l, q :: r), ⟨⟨_, _, by rw [if_pos hlt, if_pos hlt, prs_app]⟩, by rw [List.append_assoc]; exact hc, by simp only [List.length_append, List.length_cons]; omega⟩, by simp only [List.length_cons]; omega⟩
          · rw [if_neg hlt] at hc
            refine ⟨(acc ++ pc p q, p :: l, r), ⟨⟨_, _, by rw [if_neg hlt, if_neg hlt, prs_app]⟩, by rw [List.append_assoc]; exact hc, by simp only [List.length_append, List.length_cons]; omega⟩, by simp only [List.length_cons]; omega⟩)
    ([], a, b) _ (by dsimp only; omega) ⟨⟨none, none, rfl⟩, rfl, by dsimp only; rw [List.length_nil]; omega⟩
  obtain ⟨rfl, z, w, x, y, rfl⟩ := h2
  have h1 : dWhile h_both_1 l_both_1 [some (.val (.list (prs a))), some (.val (.list (prs b))), some (.own false []), some (.own false (prs a)), some (.own false (prs b)), none, none] = _ := h1
  rw [h1]
  walk_at "ev"
  rw [at_joined (by have := bt_len a b; omega)]
  walk_at "ev"
  rfl
/-! rest -/
def rsA (e : Int) : Int → Sp → Sp
  | _, [] => []
  | k, p :: ps => (if p.1 > k then [(k, mn (p.1 - 1) e)] else []) ++ rsA e (mx k (p.2 + 1)) ps
def rsK : Int → Sp → Int
  | k, [] => k
  | k, p :: ps => rsK (mx k (p.2 + 1)) ps
theorem rsA_cc (e k : Int) (p : Int × Int) (ps : Sp) : rsA e k (p :: ps) = (if p.1 > k then [(k, mn (p.1 - 1) e)] else []) ++ rsA e (mx k (p.2 + 1)) ps := rfl
theorem rs_split (e : Int) : ∀ (ps : Sp) (k : Int), rs e k ps = rsA e k ps ++ (if rsK k ps ≤ e then [(rsK k ps, e)] else [])
  | [], k => rfl
  | p :: ps, k => by
    unfold rs rsA rsK
    rw [rs_split e ps, List.append_assoc]
theorem rsA_len (e : Int) : ∀ (ps : Sp) (k : Int), (rsA e k ps).length ≤ ps.length
  | [], k => Nat.le_refl _
  | p :: ps, k => by
    unfold rsA
    have := rsA_len e ps (mx k (p.2 + 1))
    rw [List.length_append, List.length_cons]
    split <;> simp only [List.length_cons, List.length_nil] <;> omega
theorem rest_step {acc : List D} {p : Int × Int} {k e : Int} {v0 v1 x y z : Option Sl} (h : acc.length < 1000000) :
    forS g_rest_1 l_rest_1 (prD p) [v0, v1, some (.val (.int e)), some (.own false acc), some (.val (.int k)), x, y, z] =
      some (.nx, [v0, v1, some (.val (.int e)), some (.own false (acc ++ prs (if p.1 > k then [(k, mn (p.1 - 1) e)] else []))), some (.val (.int (mx k (p.2 + 1)))), some (.val (.int p.1)), some (.val (.int p.2)), z]) := by
  obtain ⟨p1, p2⟩ := p
  unfold g_rest_1 l_rest_1 mx mn
  have h : acc.length < 16777216 := by omega
  simp only [prD_eq]
  by_cases h1 : p1 > k
  · have h1' : k < p1 := h1
    walk_at "evs"
    simp only [prs, List.map_cons, List.map_nil, prD_eq, GT.gt]
  · have h1' : ¬ k < p1 := h1
    walk_at "evs"
    simp only [prs, List.map_cons, List.map_nil, prD_eq, GT.gt, List.append_nil]
theorem rest_loop {e : Int} {v0 v1 z : Option Sl} : ∀ (ps : Sp) (acc : List D) (k : Int) (x y : Option Sl), acc.length + ps.length < 1000000 →
    ∃ x' y', forL g_rest_1 l_rest_1 (prs ps) [v0, v1, some (.val (.int e)), some (.own false acc), some (.val (.int k)), x, y, z] = some (.nx, [v0, v1, some (.val (.int e)), some (.own false (acc ++ prs (rsA e k ps))), some (.val (.int (rsK k ps))), x', y', z])
  | [], acc, k, x, y, _ => ⟨x, y, by unfold rsA rsK; rw [show prs [] = ([] : List D) from rfl, List.append_nil]; rfl⟩
  | p :: ps, acc, k, x, y, h => by
    rw [List.length_cons] at h
    obtain ⟨x', y', ih⟩ := rest_loop ps (acc ++ prs (if p.1 > k then [(k, mn (p.1 - 1) e)] else [])) (mx k (p.2 + 1)) (some (.val (.int p.1))) (some (.val (.int p.2))) (by
      rw [List.length_append, prs_len]
      split <;> simp only [List.length_cons, List.length_nil] <;> omega)
    refine ⟨x', y', ?_⟩
    rw [prs_cons, forL_nx (rest_step (by omega)), ih]
    rw [rsA_cc, prs_app, List.append_assoc]
    rfl
theorem rest_comp {ps : Sp} {v0 v1 v2 v3 v4 v5 v6 : Option Sl} (h : ps.length ≤ 1000000) : lcLoop g_rest_2 c_rest_2 e_rest_2 [7] (prs ps) [] [v0, v1, v2, v3, v4, v5, v6, none] = some (prs (ps.filter okS), [v0, v1, v2, v3, v4, v5, v6, none]) :=
  lcLoop_pure (ρ := [v0, v1, v2, v3, v4, v5, v6, none]) okS prD (fun p => by
    obtain ⟨p1, p2⟩ := p
    refine ⟨[v0, v1, v2, v3, v4, v5, v6, some (.val (prD (p1, p2)))], [v0, v1, v2, v3, v4, v5, v6, some (.val (prD (p1, p2)))], rfl, ?_, fun _ => rfl, fun _ => ⟨.val (prD (p1, p2)), [v0, v1, v2, v3, v4, v5, v6, some (.val (prD (p1, p2)))], [v0, v1, v2, v3, v4, v5, v6, some (.val (prD (p1, p2)))], ?_, rfl, rfl⟩⟩
    · unfold c_rest_2 okS
      simp only [prD_eq]
      walk_at "ev"
    · unfold e_rest_2
      simp only [prD_eq]
      walk_at "ev") ps [] (by rw [List.length_nil]; omega)
theorem at_rest {ps : Sp} {s e : Int} (h : ps.length < 100000) : callF b_rest 8 [.val (.list (prs ps)), .val (.int s), .val (.int e)] = some (.new (.own false (prs (restF ps s e))), [none, none, none]) := by
  rw [callF_ap]
  unfold b_rest
  walk_at "ev"
  obtain ⟨x', y', e1⟩ := rest_loop (e := e) (v0 := some (.val (.list (prs ps)))) (v1 := some (.val (.int s))) (z := none) ps [] s none none (by rw [List.length_nil]; omega)
  rw [e1]
  have hl := rsA_len e ps s
  have hl' : (prs (rsA e s ps)).length < 16777216 := by rw [prs_len]; omega
  have hsp := rs_split e ps s
  have h9 : (rs e s ps).length ≤ 1000000 := by
    rw [hsp, List.length_append]
    split <;> simp only [List.length_cons, List.length_nil] <;> omega
  unfold restF
  by_cases h1 : rsK s ps ≤ e
  · rw [if_pos h1] at hsp
    have e2 : prs (rsA e s ps) ++ [PyData.tuple [PyData.int (rsK s ps), PyData.int e]] = prs (rs e s ps) := by rw [hsp, prs_app]; rfl
    walk_at "evs"
    rw [rest_comp (by rw [← hsp]; exact h9)]
    walk_at "ev"
  · rw [if_neg h1, List.append_nil] at hsp
    walk_at "evs"
    rw [rest_comp (by rw [← hsp]; exact h9)]
    walk_at "ev"
theorem check_comp {ps : Sp} {v0 : Option Sl} (h : ps.length ≤ 1000000) : lcLoop g_check_bookings_1 hYes e_check_bookings_1 [1, 2] (prs ps) [] [v0, none, none] = some ((ps.map fun p => decide (p.1 < p.2)).map PyData.bool, [v0, none, none]) := by
  have := lcLoop_pure (g := g_check_bookings_1) (c := hYes) (f := e_check_bookings_1) (vs := [1, 2]) (ρ := [v0, none, none]) (en := prD) (fun _ => true) (fun p => .bool (decide (p.1 < p.2))) (fun p => by
    obtain ⟨p1, p2⟩ := p
    refine ⟨[v0, some (.val (.int p1)), some (.val (.int p2))], [v0, some (.val (.int p1)), some (.val (.int p2))], rfl, rfl, (fun h => by cases h), fun _ => ⟨.val (.bool (decide (p1 < p2))), [v0, some (.val (.int p1)), some (.val (.int p2))], [v0, some (.val (.int p1)), some (.val (.int p2))], rfl, rfl, rfl⟩⟩) ps [] (by rw [List.length_nil]; omega)
  rw [this, List.filter_eq_self.mpr fun _ _ => rfl, List.nil_append, List.map_map]
  rfl
theorem at_check_bookings {ps : Sp} (h : ps.length ≤ 200) (hv : ∀ p ∈ ps, p.1 < p.2) : callF b_check_bookings 3 [.val (.tuple (prs ps))] = some (.val .none, [none]) := by
  rw [callF_ap]
  unfold b_check_bookings
  have h1 : ¬ ((200 : Int) < ((prs ps).length : Nat)) := by rw [prs_len]; omega
  have h2 : ((ps.map fun p => decide (p.1 < p.2)).all id) = true := by
    rw [List.all_map, List.all_eq_true]
    intro p hp
    exact decide_eq_true (hv p hp)
  walk_at "ev"
  simp only [h1]
  walk_at "ev"
  rw [check_comp (by omega)]
  walk_at "ev"
  simp only [h2]
  walk_at "ev"
theorem free_comp {ps : Sp} {v0 v1 v2 v3 v4 v5 v6 : Option Sl} (h : ps.length ≤ 1000000) : lcLoop g_free_spells_2 c_free_spells_2 e_free_spells_2 [7] (prs ps) [] [v0, v1, v2, v3, v4, v5, v6, none] = some (prs (ps.filter okS), [v0, v1, v2, v3, v4, v5, v6, none]) := rest_comp h
theorem free_step {acc : Sp} {p : Int × Int} {k e : Int} {v0 v1 x y z : Option Sl} (h : acc.length < 1000000) (ha : ∀ q ∈ acc, q.1 ≤ e) (hk : k ≤ e) :
    forS g_free_spells_1 l_free_spells_1 (prD (sh p)) [v0, v1, some (.val (.int e)), some (.own false (prs acc)), some (.val (.int k)), x, y, z] =
      some (if mx k (p.2 + 1) > e then .rt (.at 3) else .nx, [v0, v1, some (.val (.int e)), some (.own false (prs (acc ++ (if p.1 > k then [(k, mn (p.1 - 1) e)] else [])))), some (.val (.int (mx k (p.2 + 1)))), some (.val (.int p.1)), some (.val (.int (p.2 + 1))), z]) := by
  obtain ⟨p1, p2⟩ := p
  unfold g_free_spells_1 l_free_spells_1 sh
  have hlen : (prs acc).length < 16777216 := by rw [prs_len]; omega
  have hm : (if p2 + 1 > k then p2 + 1 else k) = mx k (p2 + 1) := rfl
  have hm' : (if e < p1 - 1 then e else p1 - 1) = mn (p1 - 1) e := rfl
  simp only [prD_eq]
  by_cases h1 : p1 > k
  · have h1' : k < p1 := h1
    have e3 : prs (acc ++ [(k, mn (p1 - 1) e)]) = prs acc ++ [.tuple [.int k, .int (mn (p1 - 1) e)]] := prs_app _ _
    rw [if_pos h1, e3]
    by_cases h2 : e < mx k (p2 + 1)
    · simp only [GT.gt, h2, if_true]
      repeat (first | walk_at "ev" | simp only [h1', hm, hm', hlen, h2, hk])
    · simp only [GT.gt, h2, if_false]
      repeat (first | walk_at "ev" | simp only [h1', hm, hm', hlen, h2, hk])
  · have h1' : ¬ k < p1 := h1
    rw [if_neg h1, List.append_nil]
    by_cases h2 : e < mx k (p2 + 1)
    · simp only [GT.gt, h2, if_true]
      rcases List.eq_nil_or_concat acc with rfl | ⟨init, q, rfl⟩
      · simp only [prs, List.map_nil]
        repeat (first | walk_at "ev" | simp only [h1', hm, hm', hlen, h2, hk])
      · obtain ⟨q1, q2⟩ := q
        have hq : q1 ≤ e := ha (q1, q2) (by rw [List.concat_eq_append]; exact List.mem_append_right _ List.mem_cons_self)
        have e4 : prs (init ++ [(q1, q2)]) = prs init ++ [.tuple [.int q1, .int q2]] := prs_app _ _
        rw [List.concat_eq_append] at *
        rw [e4]
        repeat (first | walk_at "ev" | simp only [h1', hm, hm', hlen, h2, hq])
    · simp only [GT.gt, h2, if_false]
      repeat (first | walk_at "ev" | simp only [h1', hm, hm', hlen, h2, hk])
theorem rs_dead {e : Int} : ∀ (ps : Sp) (k : Int), e < k → (rs e k ps).filter okS = []
  | [], k, h => by unfold rs; rw [if_neg (by omega)]; rfl
  | p :: ps, k, h => by
    unfold rs
    have h1 : k ≤ mx k (p.2 + 1) := (mx_le.mp (Int.le_refl _)).1
    rw [List.filter_append, rs_dead ps _ (by omega), List.append_nil]
    split
    · rw [List.filter_cons_of_neg]
      · rfl
      · unfold okS
        have h2 := (le_mn.mp (Int.le_refl (mn (p.1 - 1) e))).2
        rw [decide_eq_true_eq]
        dsimp only
        omega
    · rfl
theorem free_loop {e : Int} {v0 v1 z : Option Sl} : ∀ (ps : Sp) (acc : Sp) (k : Int) (x y : Option Sl), acc.length + ps.length < 1000000 → (∀ q ∈ acc, q.1 ≤ e ∧ q.1 ≤ q.2) → k ≤ e →
    (∃ acc' k' x' y', forL g_free_spells_1 l_free_spells_1 (prs (ps.map sh)) [v0, v1, some (.val (.int e)), some (.own false (prs acc)), some (.val (.int k)), x, y, z] = some (.rt (.at 3), [v0, v1, some (.val (.int e)), some (.own false (prs acc')), some (.val (.int k')), x', y', z]) ∧ acc' = (acc ++ rs e k ps).filter okS) ∨
    (∃ acc' k' x' y', forL g_free_spells_1 l_free_spells_1 (prs (ps.map sh)) [v0, v1, some (.val (.int e)), some (.own false (prs acc)), some (.val (.int k)), x, y, z] = some (.nx, [v0, v1, some (.val (.int e)), some (.own false (prs acc')), some (.val (.int k')), x', y', z]) ∧ k' ≤ e ∧ acc'.length < 1000000 ∧ acc' ++ [(k', e)] = acc ++ rs e k ps)
  | [], acc, k, x, y, h, ha, hk => .inr ⟨acc, k, x, y, rfl, hk, by rw [List.length_nil] at h; omega, by unfold rs; rw [if_pos hk]⟩
  | p :: ps, acc, k, x, y, h, ha, hk => by
    rw [List.length_cons] at h
    have hst := free_step (p := p) (v0 := v0) (v1 := v1) (x := x) (y := y) (z := z) (acc := acc) (k := k) (e := e) (by omega) (fun q hq => (ha q hq).1) hk
    have hr : rs e k (p :: ps) = (if p.1 > k then [(k, mn (p.1 - 1) e)] else []) ++ rs e (mx k (p.2 + 1)) ps := rfl
    have hacc : ∀ q ∈ acc ++ (if p.1 > k then [(k, mn (p.1 - 1) e)] else []), q.1 ≤ e ∧ q.1 ≤ q.2 := fun q hq => by
      rcases List.mem_append.mp hq with hq | hq
      · exact ha q hq
      · split at hq
        · rw [List.mem_singleton.mp hq]
          exact ⟨hk, le_mn.mpr (by omega)⟩
        · simp at hq
    by_cases h2 : mx k (p.2 + 1) > e
    · rw [if_pos h2] at hst
      refine .inl ⟨_, _, _, _, forL_rt hst, ?_⟩
      rw [hr, ← List.append_assoc, List.filter_append, rs_dead ps _ h2, List.append_nil, List.filter_eq_self.mpr]
      intro q hq
      exact decide_eq_true (hacc q hq).2
    · rw [if_neg h2] at hst
      have ih := free_loop (v0 := v0) (v1 := v1) (z := z) ps (acc ++ (if p.1 > k then [(k, mn (p.1 - 1) e)] else [])) (mx k (p.2 + 1)) (some (.val (.int p.1))) (some (.val (.int (p.2 + 1)))) (by
        rw [List.length_append]
        split <;> simp only [List.length_cons, List.length_nil] <;> omega) hacc (by omega)
      have hf : forL g_free_spells_1 l_free_spells_1 (prs ((p :: ps).map sh)) [v0, v1, some (.val (.int e)), some (.own false (prs acc)), some (.val (.int k)), x, y, z] = _ := forL_nx (ds := prs (ps.map sh)) hst
      rw [hf, hr, ← List.append_assoc]
      exact ih
theorem at_free_spells {ps : Sp} {s e : Int} (h : ps.length ≤ 200) (hv : ∀ p ∈ ps, p.1 ≤ p.2) (he : s ≤ e) :
    callF b_free_spells 8 [.val (.tuple (prs (ps.map sh))), .val (.int s), .val (.int e)] = some (.new (.own false (prs (restF (sortP ps) s e))), [none, none, none]) := by
  rw [callF_ap]
  unfold b_free_spells
  walk_at "ev"
  rw [at_check_bookings (by rw [List.length_map]; exact h) (fun p hp => by
    obtain ⟨q, hq, rfl⟩ := List.mem_map.mp hp
    have := hv q hq
    unfold sh
    dsimp only
    omega)]
  walk_at "ev"
  simp only [sortP_sh]
  have hl : (sortP ps).length ≤ 200 := by rw [(sortP_perm ps).length_eq]; exact h
  rcases free_loop (v0 := some (.val (.tuple (prs (ps.map sh))))) (v1 := some (.val (.int s))) (z := none) (sortP ps) [] s none none (by rw [List.length_nil]; omega) (fun q hq => by simp at hq) he with ⟨acc', k', x', y', h1, h2⟩ | ⟨acc', k', x', y', h1, h2, h3, h4⟩
  · rw [prs_nil] at h1
    rw [h1, h2]
    walk_at "ev"
    rfl
  · rw [prs_nil] at h1
    rw [h1]
    have hl2 : (prs acc').length < 16777216 := by rw [prs_len]; omega
    have e5 : prs acc' ++ [.tuple [.int k', .int e]] = prs (rs e s (sortP ps)) := by
      have : prs (acc' ++ [(k', e)]) = prs acc' ++ [.tuple [.int k', .int e]] := prs_app _ _
      rw [← this, h4]
      rfl
    have e6 : (rs e s (sortP ps)).length ≤ 1000000 := by
      have := congrArg List.length h4
      rw [List.length_append, List.length_singleton] at this
      have h7 : ([] ++ rs e s (sortP ps)).length = (rs e s (sortP ps)).length := rfl
      omega
    repeat (first | walk_at "ev" | simp only [h2, hl2, e5])
    rw [free_comp e6]
    walk_at "ev"
    rfl
end K80

namespace K80
open PySem PySem.Spec PyProof.Rows L2 DL

local macro_rules | `(tactic| walk_at "ev") => `(tactic| simp only [dVar_ap, dC_ap, dOp_ap, dNeg_ap, dTest_ap, dTruth_ap, hAnd_ap, hOr_ap, hNot_ap, hYes_ap, dAnd_ap, dOr_ap, dNot_ap, dIf_ap, dChain_ap, aNil_ap, aCons_ap, aVal_ap, aLend_ap, kNil_ap, kCons_ap, dCB_ap, dTup_ap, dLst_ap, dSl_ap, oNone_ap, oSome_ap, dMut_ap, dListScr_ap, dRgL_ap, twoI_ap, dLc_ap, dCallN_ap, dSkip_ap, dSeq_ap, dAsg_ap, dAsgG_ap, dExpr_ap, dRet_ap, dRetN_ap, dBrk_ap, dCnt_ap, dIfS_ap, dAug_ap, dSetI_ap, dFor_ap, dPar2_ap, dPar3_ap, iAny_ap, iRng1_ap, iRng2_ap, iZip_ap, gN_ap, gT_ap, gsNil_ap, gsCons_ap, forS_ap, retR_val, retR_new, retR_at, outs_nil, outs_val, List.map_cons, List.map_nil, List.cons_append, List.nil_append, List.reduceReplicate, Nat.reduceSub, Nat.reduceAdd, List.tail_cons, List.isEmpty_cons, List.isEmpty_nil, Bool.not_true, Bool.not_false,
  storeR_val, storeR_new, storeR_at, DL.settle_val, DL.settle_new, DL.settle_at, stab_val, stab_new, stab_at, dat_val, dat_new, dat_at, data_val, data_own, data_dic, keepS_val, keepS_new, keepS_at, dats_nil, dats_cons, vals_nil, vals_cons, ores_vl, ores_ls, ores_tp, ores_dc, argSl_nil, argSl_val, argSl_at, lentAt_nil, lentAt_val, lentAt_at, putBack_nil, putBack_val, tail_cons,
  gAdd_int, gSub_int, gLt_int, gLe_int, gGt_int, gGe_int, gEq_int, gNe_int, gIx_list, gIx_tuple, gLen_list, gLen_tuple, gMax2_int, gMin2_int, gInt_int, gInt_bool, gAbs_int, gList_list, gTuple_list, truD_list, truD_tuple, truD_bool, gRev_nil, gPopAt_zero, atI_zero, atI_one, atI_two, atI_last1, forL_nil,
  Option.bind_some, Option.bind_none, Option.join_some, List.getElem?_cons_zero, List.getElem?_cons_succ, List.set_cons_zero, List.set_cons_succ, List.length_cons, List.length_nil, ↓reduceIte, Bool.false_eq_true, gApp_if, aLast_ap, outs_ownA, outSl_own, outSl_scr, outs_scr, putBack_at, nodup_one, List.head?_cons, wipeE_nil, wipeE_cons, restE_nil, restE_cons, gSortedB_pairs, gSortedB_tuple, gSum_ints, gAll_bls, gAny_bls, Nat.reduceLeDiff, Nat.reduceLT, Int.reduceNeg, Nat.reduceMul, ne_snoc, set_snoc, DL.ixN_last, List.length_append, List.length_singleton, List.nodup_nil, true_and, and_true, decide_true, decide_false, Bool.and_true, Bool.and_false, Bool.true_and, Bool.false_and, Bool.or_true, Bool.or_false, Bool.true_or, Bool.false_or])
local macro_rules | `(tactic| walk_at "evs") => `(tactic| simp only [dVar_ap, dC_ap, dOp_ap, dNeg_ap, dTest_ap, dTruth_ap, hAnd_ap, hOr_ap, hNot_ap, hYes_ap, dAnd_ap, dOr_ap, dNot_ap, dIf_ap, dChain_ap, aNil_ap, aCons_ap, aVal_ap, aLend_ap, kNil_ap, kCons_ap, dCB_ap, dTup_ap, dLst_ap, dSl_ap, oNone_ap, oSome_ap, dMut_ap, dListScr_ap, dRgL_ap, twoI_ap, dLc_ap, dCallN_ap, dSkip_ap, dSeq_ap, dAsg_ap, dAsgG_ap, dExpr_ap, dRet_ap, dRetN_ap, dBrk_ap, dCnt_ap, dIfS_ap, dAug_ap, dSetI_ap, dFor_ap, dPar2_ap, dPar3_ap, iAny_ap, iRng1_ap, iRng2_ap, iZip_ap, gN_ap, gT_ap, gsNil_ap, gsCons_ap, forS_ap, retR_val, retR_new, retR_at, outs_nil, outs_val, List.map_cons, List.map_nil, List.cons_append, List.nil_append, List.reduceReplicate, Nat.reduceSub, Nat.reduceAdd, List.tail_cons, List.isEmpty_cons, List.isEmpty_nil, Bool.not_true, Bool.not_false,
  storeR_val, storeR_new, storeR_at, DL.settle_val, DL.settle_new, DL.settle_at, stab_val, stab_new, stab_at, dat_val, dat_new, dat_at, data_val, data_own, data_dic, keepS_val, keepS_new, keepS_at, dats_nil, dats_cons, vals_nil, vals_cons, ores_vl, ores_ls, ores_tp, ores_dc, argSl_nil, argSl_val, argSl_at, lentAt_nil, lentAt_val, lentAt_at, putBack_nil, putBack_val, tail_cons,
  gAdd_int, gSub_int, gLt_int, gLe_int, gGt_int, gGe_int, gEq_int, gNe_int, gIx_list, gIx_tuple, gLen_list, gLen_tuple, gMax2_int, gMin2_int, gInt_int, gInt_bool, gAbs_int, gList_list, gTuple_list, truD_list, truD_tuple, truD_bool, gRev_nil, gPopAt_zero, atI_zero, atI_one, atI_two, atI_last1, forL_nil,
  Option.bind_some, Option.bind_none, Option.join_some, List.getElem?_cons_zero, List.getElem?_cons_succ, List.set_cons_zero, List.set_cons_succ, List.length_cons, List.length_nil, ↓reduceIte, Bool.false_eq_true, gApp_if, aLast_ap, outs_ownA, outSl_own, outSl_scr, outs_scr, putBack_at, nodup_one, List.head?_cons, wipeE_nil, wipeE_cons, restE_nil, restE_cons, gSortedB_pairs, gSortedB_tuple, gSum_ints, gAll_bls, gAny_bls, Nat.reduceLeDiff, Nat.reduceLT, Int.reduceNeg, Nat.reduceMul, ne_snoc, set_snoc, DL.ixN_last, List.length_append, List.length_singleton, List.nodup_nil, true_and, and_true, decide_true, decide_false, Bool.and_true, Bool.and_false, Bool.true_and, Bool.false_and, Bool.or_true, Bool.or_false, Bool.true_or, Bool.false_or, *])
abbrev inz (is : List Int) : List D := is.map PyData.int
theorem at_either {a b : Sp} (h : a.length + b.length < 100000) : callF b_either 2 [.val (.list (prs a)), .val (.list (prs b))] = some (.new (.own false (prs (eitherF a b))), [none, none]) := by
  rw [callF_ap]
  unfold b_either
  walk_at "ev"
  rw [gAdd_list (by rw [prs_len, prs_len]; omega), ← prs_app]
  walk_at "ev"
  rw [at_joined (by rw [(sortP_perm _).length_eq, List.length_append]; omega)]
  walk_at "ev"
  rfl
theorem length_comp {ps : Sp} {v0 : Option Sl} (h : ps.length ≤ 1000000) : lcLoop g_length_1 hYes e_length_1 [1, 2] (prs ps) [] [v0, none, none] = some (inz (ps.map fun p => p.2 - p.1 + 1), [v0, none, none]) := by
  have := lcLoop_pure (g := g_length_1) (c := hYes) (f := e_length_1) (vs := [1, 2]) (ρ := [v0, none, none]) (en := prD) (fun _ => true) (fun p => .int (p.2 - p.1 + 1)) (fun p => by
    obtain ⟨p1, p2⟩ := p
    refine ⟨[v0, some (.val (.int p1)), some (.val (.int p2))], [v0, some (.val (.int p1)), some (.val (.int p2))], rfl, rfl, (fun h => by cases h), fun _ => ⟨.val (.int (p2 - p1 + 1)), [v0, some (.val (.int p1)), some (.val (.int p2))], [v0, some (.val (.int p1)), some (.val (.int p2))], rfl, rfl, rfl⟩⟩) ps [] (by rw [List.length_nil]; omega)
  rw [this, List.filter_eq_self.mpr fun _ _ => rfl, List.nil_append, inz, List.map_map]
  rfl
theorem at_length {ps : Sp} (h : ps.length ≤ 1000000) : callF b_length 3 [.val (.list (prs ps))] = some (.val (.int (ln ps)), [none]) := by
  rw [callF_ap]
  unfold b_length
  walk_at "ev"
  rw [length_comp h]
  walk_at "ev"
  rfl
/-! ticks -/
theorem range_rg (lo hi : Int) : rangeD lo (hi - lo).toNat = inz (rg lo hi) := by
  unfold rangeD rg
  rw [inz, List.map_map]
  rfl
/-- small spells -/
def Sm (ps : Sp) : Prop := ps.length ≤ 100 ∧ ∀ p ∈ ps, 0 ≤ p.1 ∧ p.2 < 1000
theorem tk_len : ∀ (ps : Sp), (∀ p ∈ ps, 0 ≤ p.1 ∧ p.2 < 1000) → (tk ps).length ≤ 1000 * ps.length
  | [], _ => Nat.le_refl _
  | p :: ps, h => by
    have ih := tk_len ps fun q hq => h q (List.mem_cons_of_mem _ hq)
    have hp := h p List.mem_cons_self
    rw [tk_cons, List.length_append, rg_len, List.length_cons]
    omega
theorem ticks_step {acc : List Int} {p : Int × Int} {v0 x y : Option Sl} (h : acc.length < 1000000) (hp : 0 ≤ p.1 ∧ p.2 < 1000 ∧ p.1 ≤ p.2) :
    forS g__law_ticks_1 l__law_ticks_1 (prD p) [v0, some (.own false (inz acc)), x, y] = some (.nx, [v0, some (.own false (inz (acc ++ rg p.1 (p.2 + 1)))), some (.val (.int p.1)), some (.val (.int p.2))]) := by
  obtain ⟨p1, p2⟩ := p
  dsimp only at hp
  unfold g__law_ticks_1 l__law_ticks_1
  simp only [prD_eq]
  walk_at "ev"
  have hk : okRg p1 (p2 + 1) = true := decide_eq_true (by
    have e : (2 : Int) ^ 62 = 4611686018427387904 := by decide
    rw [e]
    omega)
  simp only [hk]
  walk_at "ev"
  rw [range_rg, gAdd_list (by rw [inz, List.length_map, inz, List.length_map, rg_len]; omega), ← List.map_append]
  walk_at "ev"
theorem ticks_loop {v0 : Option Sl} : ∀ (ps : Sp) (acc : List Int) (x y : Option Sl), acc.length + 1000 * ps.length < 1000000 → (∀ p ∈ ps, 0 ≤ p.1 ∧ p.2 < 1000 ∧ p.1 ≤ p.2) →
    ∃ x' y', forL g__law_ticks_1 l__law_ticks_1 (prs ps) [v0, some (.own false (inz acc)), x, y] = some (.nx, [v0, some (.own false (inz (acc ++ tk ps))), x', y'])
  | [], acc, x, y, _, _ => ⟨x, y, by rw [show tk [] = [] from rfl, List.append_nil]; rfl⟩
  | p :: ps, acc, x, y, h, hp => by
    rw [List.length_cons] at h
    have h1 := hp p List.mem_cons_self
    obtain ⟨x', y', ih⟩ := ticks_loop (v0 := v0) ps (acc ++ rg p.1 (p.2 + 1)) (some (.val (.int p.1))) (some (.val (.int p.2))) (by rw [List.length_append, rg_len]; omega) fun q hq => hp q (List.mem_cons_of_mem _ hq)
    refine ⟨x', y', ?_⟩
    rw [prs_cons, forL_nx (ticks_step (by omega) h1), ih, tk_cons, List.append_assoc]
theorem at_ticks {ps : Sp} (h : Sm ps) (hv : ∀ p ∈ ps, p.1 ≤ p.2) : callF b__law_ticks 4 [.val (.list (prs ps))] = some (.new (.own false (inz (tk ps))), [none]) := by
  rw [callF_ap]
  unfold b__law_ticks
  walk_at "ev"
  obtain ⟨x', y', e⟩ := ticks_loop (v0 := some (.val (.list (prs ps)))) ps [] none none (by have := h.1; rw [List.length_nil]; omega) fun p hp => by
    have := h.2 p hp
    have := hv p hp
    omega
  rw [show inz [] = ([] : List D) from rfl] at e
  rw [e]
  walk_at "ev"
/-! takes -/
theorem at_take {is : List Int} {l : Int} (hl : 0 < l) : ∃ v is', callF b__law_take 2 [.own true (inz is), .val (.int l)] = some (.val (.int v), [some (.own true (inz is')), none]) ∧ 0 ≤ v ∧ v < l := by
  rcases List.eq_nil_or_concat is with rfl | ⟨init, x, rfl⟩
  · refine ⟨0, [], ?_, Int.le_refl _, hl⟩
    rw [callF_ap]
    unfold b__law_take
    rfl
  · refine ⟨x % l, init, ?_, Int.emod_nonneg _ (by omega), Int.emod_lt_of_pos _ hl⟩
    rw [callF_ap, List.concat_eq_append]
    unfold b__law_take
    have e : inz (init ++ [x]) = inz init ++ [.int x] := List.map_append
    have hne : ((((inz init).length + 1 : Nat) : Int) == 0) = false := beq_eq_false_iff_ne.mpr (by omega)
    rw [e]
    walk_at "ev"
    simp only [hne]
    walk_at "ev"
    rw [gPop_last]
    walk_at "ev"
    rw [gMod_int hl]
    walk_at "ev"
/-! spells -/
/-- what _law_spells makes: from at on -/
def Dr (k : Int) (w : Int) (ps : Sp) : Prop := ps.length * 18 ≤ w ∧ Nm ps ∧ ∀ p ∈ ps, k ≤ p.1 ∧ p.2 + 10 ≤ k + w
theorem spells_step {is : List Int} {acc : List D} {k i : Int} {x y : Option Sl} (h : acc.length < 1000000) : ∃ v w is',
    forS g__law_spells_1 l__law_spells_1 (.int i) [some (.own true (inz is)), some (.own false acc), some (.val (.int k)), x, y] =
      some (.nx, [some (.own true (inz is')), some (.own false (acc ++ [prD (k, k + v)])), some (.val (.int (k + v + 2 + w))), some (.val (.int i)), some (.val (.int (k + v)))]) ∧ 0 ≤ v ∧ v < 9 ∧ 0 ≤ w ∧ w < 9 := by
  obtain ⟨v, is1, e1, v0, v9⟩ := at_take (is := is) (l := 9) (by decide)
  obtain ⟨w, is2, e2, w0, w9⟩ := at_take (is := is1) (l := 9) (by decide)
  refine ⟨v, w, is2, ?_, v0, v9, w0, w9⟩
  have hn : ([0] : List Nat).Nodup := by decide
  have hl : acc.length < 16777216 := by omega
  unfold g__law_spells_1 l__law_spells_1
  simp only [prD_eq]
  walk_at "ev"
  repeat (first | walk_at "ev" | simp only [e1, e2, hl])
theorem rangeD_succ {lo : Int} {n : Nat} : rangeD lo (n + 1) = .int lo :: rangeD (lo + 1) n := by
  unfold rangeD
  rw [List.range_succ_eq_map, List.map_cons, List.map_map]
  have e : lo + ((0 : Nat) : Int) = lo := by omega
  rw [e]
  congr 1
  refine List.map_congr_left fun i _ => ?_
  show PyData.int _ = PyData.int _
  congr 1
  show lo + ((i + 1 : Nat) : Int) = lo + 1 + (i : Int)
  omega
theorem spells_loop : ∀ (n : Nat) (i : Int) (is : List Int) (acc : Sp) (k : Int) (x y : Option Sl), acc.length + n < 1000 → ∃ is' ps k' x' y',
    forL g__law_spells_1 l__law_spells_1 (rangeD i n) [some (.own true (inz is)), some (.own false (prs acc)), some (.val (.int k)), x, y] =
      some (.nx, [some (.own true (inz is')), some (.own false (prs (acc ++ ps))), k', x', y']) ∧ ps.length = n ∧ Nm ps ∧ ∀ p ∈ ps, k ≤ p.1 ∧ p.2 + 18 ≤ k + 18 * n + 9
  | 0, i, is, acc, k, x, y, _ => ⟨is, [], _, x, y, by rw [List.append_nil]; rfl, rfl, trivial, fun p hp => by simp at hp⟩
  | n + 1, i, is, acc, k, x, y, h => by
    obtain ⟨v, w, is1, e1, v0, v9, w0, w9⟩ := spells_step (is := is) (acc := prs acc) (k := k) (i := i) (x := x) (y := y) (by rw [prs_len]; omega)
    obtain ⟨is', ps, k', x', y', e2, e3, e4, e5⟩ := spells_loop n (i + 1) is1 (acc ++ [(k, k + v)]) (k + v + 2 + w) (some (.val (.int i))) (some (.val (.int (k + v)))) (by rw [List.length_append, List.length_singleton]; omega)
    refine ⟨is', (k, k + v) :: ps, k', x', y', ?_, by rw [List.length_cons, e3], ⟨by dsimp only; omega, fun q hq => by have := (e5 q hq).1; dsimp only; omega, e4⟩, fun q hq => ?_⟩
    · rw [rangeD_succ, forL_nx e1, List.append_cons acc (k, k + v) ps, ← e2, prs_app]
      rfl
    · rcases List.mem_cons.mp hq with rfl | hq
      · dsimp only
        omega
      · have := e5 q hq
        omega
theorem at_spells {is : List Int} : ∃ is' ps, callF b__law_spells 5 [.own true (inz is)] = some (.new (.own false (prs ps)), [some (.own true (inz is'))]) ∧ ps.length ≤ 4 ∧ Nm ps ∧ ∀ p ∈ ps, 0 ≤ p.1 ∧ p.2 < 100 := by
  obtain ⟨v, is1, e1, v0, v20⟩ := at_take (is := is) (l := 20) (by decide)
  obtain ⟨n, is2, e2, n0, n5⟩ := at_take (is := is1) (l := 5) (by decide)
  obtain ⟨is', ps, k', x', y', e3, e4, e5, e6⟩ := spells_loop n.toNat 0 is2 [] v none none (by rw [List.length_nil]; omega)
  refine ⟨is', ps, ?_, by omega, e5, fun p hp => by have := e6 p hp; omega⟩
  rw [callF_ap]
  unfold b__law_spells
  have hn : -4611686018427387904 ≤ n ∧ n < 4611686018427387904 := by omega
  walk_at "ev"
  simp only [e1]
  walk_at "ev"
  simp only [e2]
  walk_at "ev"
  simp only [Int.reducePow, Int.reduceNeg, hn]
  walk_at "ev"
  rw [prs_nil] at e3
  rw [e3]
  repeat (first | walk_at "ev" | rfl)
end K80

namespace K80
open PySem PySem.Spec PyProof.Rows L2 DL

local macro_rules | `(tactic| walk_at "ev") => `(tactic| simp only [dVar_ap, dC_ap, dOp_ap, dNeg_ap, dTest_ap, dTruth_ap, hAnd_ap, hOr_ap, hNot_ap, hYes_ap, dAnd_ap, dOr_ap, dNot_ap, dIf_ap, dChain_ap, aNil_ap, aCons_ap, aVal_ap, aLend_ap, kNil_ap, kCons_ap, dCB_ap, dTup_ap, dLst_ap, dSl_ap, oNone_ap, oSome_ap, dMut_ap, dListScr_ap, dRgL_ap, twoI_ap, dLc_ap, dCallN_ap, dSkip_ap, dSeq_ap, dAsg_ap, dAsgG_ap, dExpr_ap, dRet_ap, dRetN_ap, dBrk_ap, dCnt_ap, dIfS_ap, dAug_ap, dSetI_ap, dFor_ap, dPar2_ap, dPar3_ap, iAny_ap, iRng1_ap, iRng2_ap, iZip_ap, gN_ap, gT_ap, gsNil_ap, gsCons_ap, forS_ap, retR_val, retR_new, retR_at, outs_nil, outs_val, List.map_cons, List.map_nil, List.cons_append, List.nil_append, List.reduceReplicate, Nat.reduceSub, Nat.reduceAdd, List.tail_cons, List.isEmpty_cons, List.isEmpty_nil, Bool.not_true, Bool.not_false,
  storeR_val, storeR_new, storeR_at, DL.settle_val, DL.settle_new, DL.settle_at, stab_val, stab_new, stab_at, dat_val, dat_new, dat_at, data_val, data_own, data_dic, keepS_val, keepS_new, keepS_at, dats_nil, dats_cons, vals_nil, vals_cons, ores_vl, ores_ls, ores_tp, ores_dc, argSl_nil, argSl_val, argSl_at, lentAt_nil, lentAt_val, lentAt_at, putBack_nil, putBack_val, tail_cons,
  gAdd_int, gSub_int, gLt_int, gLe_int, gGt_int, gGe_int, gEq_int, gNe_int, gIx_list, gIx_tuple, gLen_list, gLen_tuple, gMax2_int, gMin2_int, gInt_int, gInt_bool, gAbs_int, gList_list, gTuple_list, truD_list, truD_tuple, truD_bool, gRev_nil, gPopAt_zero, atI_zero, atI_one, atI_two, atI_last1, forL_nil,
  Option.bind_some, Option.bind_none, Option.join_some, List.getElem?_cons_zero, List.getElem?_cons_succ, List.set_cons_zero, List.set_cons_succ, List.length_cons, List.length_nil, ↓reduceIte, Bool.false_eq_true, gApp_if, aLast_ap, outs_ownA, outSl_own, outSl_scr, outs_scr, putBack_at, nodup_one, List.head?_cons, wipeE_nil, wipeE_cons, restE_nil, restE_cons, gSortedB_pairs, gSortedB_tuple, gSum_ints, gAll_bls, gAny_bls, Nat.reduceLeDiff, Nat.reduceLT, Int.reduceNeg, Nat.reduceMul, ne_snoc, set_snoc, DL.ixN_last, List.length_append, List.length_singleton, List.nodup_nil, true_and, and_true, decide_true, decide_false, Bool.and_true, Bool.and_false, Bool.true_and, Bool.false_and, Bool.or_true, Bool.or_false, Bool.true_or, Bool.false_or])
local macro_rules | `(tactic| walk_at "evs") => `(tactic| simp only [dVar_ap, dC_ap, dOp_ap, dNeg_ap, dTest_ap, dTruth_ap, hAnd_ap, hOr_ap, hNot_ap, hYes_ap, dAnd_ap, dOr_ap, dNot_ap, dIf_ap, dChain_ap, aNil_ap, aCons_ap, aVal_ap, aLend_ap, kNil_ap, kCons_ap, dCB_ap, dTup_ap, dLst_ap, dSl_ap, oNone_ap, oSome_ap, dMut_ap, dListScr_ap, dRgL_ap, twoI_ap, dLc_ap, dCallN_ap, dSkip_ap, dSeq_ap, dAsg_ap, dAsgG_ap, dExpr_ap, dRet_ap, dRetN_ap, dBrk_ap, dCnt_ap, dIfS_ap, dAug_ap, dSetI_ap, dFor_ap, dPar2_ap, dPar3_ap, iAny_ap, iRng1_ap, iRng2_ap, iZip_ap, gN_ap, gT_ap, gsNil_ap, gsCons_ap, forS_ap, retR_val, retR_new, retR_at, outs_nil, outs_val, List.map_cons, List.map_nil, List.cons_append, List.nil_append, List.reduceReplicate, Nat.reduceSub, Nat.reduceAdd, List.tail_cons, List.isEmpty_cons, List.isEmpty_nil, Bool.not_true, Bool.not_false,
  storeR_val, storeR_new, storeR_at, DL.settle_val, DL.settle_new, DL.settle_at, stab_val, stab_new, stab_at, dat_val, dat_new, dat_at, data_val, data_own, data_dic, keepS_val, keepS_new, keepS_at, dats_nil, dats_cons, vals_nil, vals_cons, ores_vl, ores_ls, ores_tp, ores_dc, argSl_nil, argSl_val, argSl_at, lentAt_nil, lentAt_val, lentAt_at, putBack_nil, putBack_val, tail_cons,
  gAdd_int, gSub_int, gLt_int, gLe_int, gGt_int, gGe_int, gEq_int, gNe_int, gIx_list, gIx_tuple, gLen_list, gLen_tuple, gMax2_int, gMin2_int, gInt_int, gInt_bool, gAbs_int, gList_list, gTuple_list, truD_list, truD_tuple, truD_bool, gRev_nil, gPopAt_zero, atI_zero, atI_one, atI_two, atI_last1, forL_nil,
  Option.bind_some, Option.bind_none, Option.join_some, List.getElem?_cons_zero, List.getElem?_cons_succ, List.set_cons_zero, List.set_cons_succ, List.length_cons, List.length_nil, ↓reduceIte, Bool.false_eq_true, gApp_if, aLast_ap, outs_ownA, outSl_own, outSl_scr, outs_scr, putBack_at, nodup_one, List.head?_cons, wipeE_nil, wipeE_cons, restE_nil, restE_cons, gSortedB_pairs, gSortedB_tuple, gSum_ints, gAll_bls, gAny_bls, Nat.reduceLeDiff, Nat.reduceLT, Int.reduceNeg, Nat.reduceMul, ne_snoc, set_snoc, DL.ixN_last, List.length_append, List.length_singleton, List.nodup_nil, true_and, and_true, decide_true, decide_false, Bool.and_true, Bool.and_false, Bool.true_and, Bool.false_and, Bool.or_true, Bool.or_false, Bool.true_or, Bool.false_or, *])
/-! the draws -/
theorem inz_set (l : List Int) (n : Nat) (v : Int) : (inz l).set n (.int v) = inz (l.set n v) := (List.map_set ..).symm
theorem inz_app (l : List Int) (v : Int) : inz l ++ [.int v] = inz (l ++ [v]) := by rw [inz, inz, List.map_append]; rfl
theorem inz_len (l : List Int) : (inz l).length = l.length := List.length_map ..
theorem pick {l : List Int} (h : l ≠ []) (k : Int) : ∃ (n : Nat) (c : Int), ixN l.length (k % (l.length : Nat)) = some n ∧ l[n]? = some c ∧ n < l.length := by
  have hl : 0 < l.length := List.length_pos_iff.mpr h
  have h1 : 0 ≤ k % ((l.length : Nat) : Int) := Int.emod_nonneg _ (by omega)
  have h2 : k % ((l.length : Nat) : Int) < (l.length : Nat) := Int.emod_lt_of_pos _ (by omega)
  have h3 : (k % ((l.length : Nat) : Int)).toNat < l.length := by omega
  refine ⟨_, l[(k % ((l.length : Nat) : Int)).toNat], ?_, List.getElem?_eq_getElem h3, h3⟩
  unfold ixN
  rw [if_pos h1, if_pos h2]
theorem draws_step {cells found : List Int} {mixed k : Int} {v0 v1 x y z u : Option Sl} (hc : cells ≠ []) (hf : found.length < 1000) (h0 : 0 ≤ mixed) (h1 : mixed < 2147483647) : ∃ cells' found' mixed' x' y' z' u',
    forS g__law_draws_1 l__law_draws_1 (.int k) [v0, v1, some (.own false (inz cells)), some (.own false (inz found)), some (.val (.int mixed)), x, y, z, u] =
      some (.nx, [v0, v1, some (.own false (inz cells')), some (.own false (inz found')), some (.val (.int mixed')), x', y', z', u']) ∧ cells' ≠ [] ∧ found'.length = found.length + 1 ∧ 0 ≤ mixed' ∧ mixed' < 2147483647 := by
  obtain ⟨n, c, hn, hg, hlt⟩ := pick hc k
  have hL : (0 : Int) < ((cells.length : Nat) : Int) := by omega
  have hat : atI (inz cells) (k % ((cells.length : Nat) : Int)) = some (.int c) := by
    unfold atI
    rw [inz_len, hn]
    show (inz cells)[n]? = _
    rw [inz, List.getElem?_map, hg]
    rfl
  have hA : ∀ a : Int, 0 ≤ a % 2147483647 ∧ a % 2147483647 < 2147483647 := fun a => ⟨Int.emod_nonneg _ (by decide), Int.emod_lt_of_pos _ (by decide)⟩
  have hl : found.length < 16777216 := by omega
  have m1 : gMod (.int k) (.int ((cells.length : Nat) : Int)) = some (.vl (.int (k % ((cells.length : Nat) : Int)))) := gMod_int hL
  have m2 : ∀ a : Int, gMod (.int a) (.int 1000003) = some (.vl (.int (a % 1000003))) := fun a => gMod_int (by decide)
  have m3 : ∀ a : Int, gMod (.int a) (.int 2147483647) = some (.vl (.int (a % 2147483647))) := fun a => gMod_int (by decide)
  have m4 : ∀ a : Int, gMod (.int a) (.int 1000) = some (.vl (.int (a % 1000))) := fun a => gMod_int (by decide)
  have m5 : ∀ a : Int, gMul (.int a) (.int 48271) = some (.vl (.int (a * 48271))) := fun a => gMul_int (.inr (by decide))
  have m6 : ∀ a : Int, gMul (.int a) (.int 69621) = some (.vl (.int (a * 69621))) := fun a => gMul_int (.inr (by decide))
  have m7 : ∀ a : Int, gMul (.int a) (.int 7919) = some (.vl (.int (a * 7919))) := fun a => gMul_int (.inr (by decide))
  have m8 : ∀ a : Int, gMul (.int 31) (.int a) = some (.vl (.int (31 * a))) := fun a => gMul_int (.inl (by decide))
  have e64 : (2 : Int) ^ 64 = 18446744073709551616 := by decide
  obtain ⟨M, hM⟩ : ∃ M, M = (mixed * 48271 + c % 1000003 * 69621 + k * 7919 + 11) % 2147483647 := ⟨_, rfl⟩
  have hM0 : 0 ≤ M := hM ▸ (hA _).1
  have hM1 : M < 2147483647 := hM ▸ (hA _).2
  have m9 : gMul (.int M) (.int M) = some (.vl (.int (M * M))) := gMul_int (.inl (by rw [e64]; omega))
  have hM := hM.symm
  have m10 : gPow (.int 10) (.int 18) = some (.vl (.int 1000000000000000000)) := by rfl
  have m11 : gDiv (.int c) (.int 1000) = some (.vl (.int (c / 1000))) := gDiv_int (by decide)
  unfold g__law_draws_1 l__law_draws_1
  by_cases hb : 1000000000000000000 ≤ c
  · refine ⟨cells.set n (c / 1000), found ++ [c % 1000], M, some (.val (.int k)), some (.val (.int (k % ((cells.length : Nat) : Int)))), some (.val (.int c)), some (.val (.int ((M * M + 31 * M + k) % 1000003))), ?_, by intro h; rw [← List.length_eq_zero_iff, List.length_set] at h; omega, by rw [List.length_append, List.length_singleton], hM0, hM1⟩
    repeat (first | walk_at "ev" | simp only [hM, inz_len, m1, m2, m3, m4, m5, m6, m7, m8, m9, m10, m11, hat, hl, hb, hn, inz_set, inz_app])
    all_goals rfl
  · refine ⟨cells, found ++ [((M * M + 31 * M + k) % 1000003) % 1000], M, some (.val (.int k)), some (.val (.int (k % ((cells.length : Nat) : Int)))), some (.val (.int c)), some (.val (.int ((M * M + 31 * M + k) % 1000003))), ?_, hc, by rw [List.length_append, List.length_singleton], hM0, hM1⟩
    repeat (first | walk_at "ev" | simp only [hM, inz_len, m1, m2, m3, m4, m5, m6, m7, m8, m9, m10, m11, hat, hl, hb, hn, inz_set, inz_app])
    all_goals rfl
theorem draws_loop {v0 v1 : Option Sl} : ∀ (n : Nat) (k : Int) (cells found : List Int) (mixed : Int) (x y z u : Option Sl), cells ≠ [] → found.length + n < 1000 → 0 ≤ mixed → mixed < 2147483647 → ∃ cells' found' mixed' x' y' z' u',
    forL g__law_draws_1 l__law_draws_1 (rangeD k n) [v0, v1, some (.own false (inz cells)), some (.own false (inz found)), some (.val (.int mixed)), x, y, z, u] =
      some (.nx, [v0, v1, some (.own false (inz cells')), some (.own false (inz found')), some (.val (.int mixed')), x', y', z', u'])
  | 0, k, cells, found, mixed, x, y, z, u, _, _, _, _ => ⟨cells, found, mixed, x, y, z, u, rfl⟩
  | n + 1, k, cells, found, mixed, x, y, z, u, hc, hf, h0, h1 => by
    obtain ⟨cells', found', mixed', x', y', z', u', e, c1, c2, c3, c4⟩ := draws_step (v0 := v0) (v1 := v1) (x := x) (y := y) (z := z) (u := u) (k := k) hc (found := found) (by omega) h0 h1
    obtain ⟨c'', f'', m'', a, b, c, d, e2⟩ := draws_loop (v0 := v0) (v1 := v1) n (k + 1) cells' found' mixed' x' y' z' u' c1 (by omega) c3 c4
    exact ⟨c'', f'', m'', a, b, c, d, by rw [rangeD_succ, forL_nx e, e2]⟩
theorem at_draws {ns : List Int} : ∃ is, callF b__law_draws 9 [.scr ns, .val (.int 300)] = some (.new (.own false (inz is)), [none, none]) := by
  have e300 : (300 : Int).toNat = 300 := rfl
  rcases ns with _ | ⟨n0, ns⟩
  · obtain ⟨c'', f'', m'', a, b, c, d, e2⟩ := draws_loop (v0 := some (.scr [])) (v1 := some (.val (.int 300))) 300 0 [7] [] 12345 none none none none (by simp) (by rw [List.length_nil]; decide) (by decide) (by decide)
    refine ⟨f''.reverse, ?_⟩
    rw [callF_ap]
    unfold b__law_draws
    have h7 : inz [7] = [PyData.int 7] := rfl
    rw [h7, show inz [] = ([] : List D) from rfl] at e2
    have hne : (((0 : Nat) : Int) == 0) = true := rfl
    repeat (first | walk_at "ev" | simp only [hne, Int.reducePow, Int.reduceNeg, Int.reduceLE, Int.reduceLT, and_self, e300] | rw [e2])
    rw [show inz f''.reverse = (f''.map PyData.int).reverse from List.map_reverse]
  · obtain ⟨c'', f'', m'', a, b, c, d, e2⟩ := draws_loop (v0 := some (.scr (n0 :: ns))) (v1 := some (.val (.int 300))) 300 0 (n0 :: ns) [] 12345 none none none none (by simp) (by rw [List.length_nil]; decide) (by decide) (by decide)
    refine ⟨f''.reverse, ?_⟩
    rw [callF_ap]
    unfold b__law_draws
    rw [show inz [] = ([] : List D) from rfl, show inz (n0 :: ns) = .int n0 :: ns.map PyData.int from rfl] at e2
    have hne : ((((ns.map PyData.int).length + 1 : Nat) : Int) == 0) = false := beq_eq_false_iff_ne.mpr (by omega)
    repeat (first | walk_at "ev" | simp only [hne, Int.reducePow, Int.reduceNeg, Int.reduceLE, Int.reduceLT, and_self, e300] | rw [e2])
    rw [show inz f''.reverse = (f''.map PyData.int).reverse from List.map_reverse]
end K80

namespace K80
open PySem PySem.Spec PyProof.Rows L2 DL

local macro_rules | `(tactic| walk_at "ev") => `(tactic| simp only [dVar_ap, dC_ap, dOp_ap, dNeg_ap, dTest_ap, dTruth_ap, hAnd_ap, hOr_ap, hNot_ap, hYes_ap, dAnd_ap, dOr_ap, dNot_ap, dIf_ap, dChain_ap, aNil_ap, aCons_ap, aVal_ap, aLend_ap, kNil_ap, kCons_ap, dCB_ap, dTup_ap, dLst_ap, dSl_ap, oNone_ap, oSome_ap, dMut_ap, dListScr_ap, dRgL_ap, twoI_ap, dLc_ap, dCallN_ap, dSkip_ap, dSeq_ap, dAsg_ap, dAsgG_ap, dExpr_ap, dRet_ap, dRetN_ap, dBrk_ap, dCnt_ap, dIfS_ap, dAug_ap, dSetI_ap, dFor_ap, dPar2_ap, dPar3_ap, iAny_ap, iRng1_ap, iRng2_ap, iZip_ap, gN_ap, gT_ap, gsNil_ap, gsCons_ap, forS_ap, retR_val, retR_new, retR_at, outs_nil, outs_val, List.map_cons, List.map_nil, List.cons_append, List.nil_append, List.reduceReplicate, Nat.reduceSub, Nat.reduceAdd, List.tail_cons, List.isEmpty_cons, List.isEmpty_nil, Bool.not_true, Bool.not_false,
  storeR_val, storeR_new, storeR_at, DL.settle_val, DL.settle_new, DL.settle_at, stab_val, stab_new, stab_at, dat_val, dat_new, dat_at, data_val, data_own, data_dic, keepS_val, keepS_new, keepS_at, dats_nil, dats_cons, vals_nil, vals_cons, ores_vl, ores_ls, ores_tp, ores_dc, argSl_nil, argSl_val, argSl_at, lentAt_nil, lentAt_val, lentAt_at, putBack_nil, putBack_val, tail_cons,
  gAdd_int, gSub_int, gLt_int, gLe_int, gGt_int, gGe_int, gEq_int, gNe_int, gIx_list, gIx_tuple, gLen_list, gLen_tuple, gMax2_int, gMin2_int, gInt_int, gInt_bool, gAbs_int, gList_list, gTuple_list, truD_list, truD_tuple, truD_bool, gRev_nil, gPopAt_zero, atI_zero, atI_one, atI_two, atI_last1, forL_nil,
  Option.bind_some, Option.bind_none, Option.join_some, List.getElem?_cons_zero, List.getElem?_cons_succ, List.set_cons_zero, List.set_cons_succ, List.length_cons, List.length_nil, ↓reduceIte, Bool.false_eq_true, gApp_if, aLast_ap, outs_ownA, outSl_own, outSl_scr, outs_scr, putBack_at, nodup_one, List.head?_cons, wipeE_nil, wipeE_cons, restE_nil, restE_cons, gSortedB_pairs, gSortedB_tuple, gSum_ints, gAll_bls, gAny_bls, Nat.reduceLeDiff, Nat.reduceLT, Int.reduceNeg, Nat.reduceMul, ne_snoc, set_snoc, DL.ixN_last, List.length_append, List.length_singleton, List.nodup_nil, true_and, and_true, decide_true, decide_false, Bool.and_true, Bool.and_false, Bool.true_and, Bool.false_and, Bool.or_true, Bool.or_false, Bool.true_or, Bool.false_or])
local macro_rules | `(tactic| walk_at "evs") => `(tactic| simp only [dVar_ap, dC_ap, dOp_ap, dNeg_ap, dTest_ap, dTruth_ap, hAnd_ap, hOr_ap, hNot_ap, hYes_ap, dAnd_ap, dOr_ap, dNot_ap, dIf_ap, dChain_ap, aNil_ap, aCons_ap, aVal_ap, aLend_ap, kNil_ap, kCons_ap, dCB_ap, dTup_ap, dLst_ap, dSl_ap, oNone_ap, oSome_ap, dMut_ap, dListScr_ap, dRgL_ap, twoI_ap, dLc_ap, dCallN_ap, dSkip_ap, dSeq_ap, dAsg_ap, dAsgG_ap, dExpr_ap, dRet_ap, dRetN_ap, dBrk_ap, dCnt_ap, dIfS_ap, dAug_ap, dSetI_ap, dFor_ap, dPar2_ap, dPar3_ap, iAny_ap, iRng1_ap, iRng2_ap, iZip_ap, gN_ap, gT_ap, gsNil_ap, gsCons_ap, forS_ap, retR_val, retR_new, retR_at, outs_nil, outs_val, List.map_cons, List.map_nil, List.cons_append, List.nil_append, List.reduceReplicate, Nat.reduceSub, Nat.reduceAdd, List.tail_cons, List.isEmpty_cons, List.isEmpty_nil, Bool.not_true, Bool.not_false,
  storeR_val, storeR_new, storeR_at, DL.settle_val, DL.settle_new, DL.settle_at, stab_val, stab_new, stab_at, dat_val, dat_new, dat_at, data_val, data_own, data_dic, keepS_val, keepS_new, keepS_at, dats_nil, dats_cons, vals_nil, vals_cons, ores_vl, ores_ls, ores_tp, ores_dc, argSl_nil, argSl_val, argSl_at, lentAt_nil, lentAt_val, lentAt_at, putBack_nil, putBack_val, tail_cons,
  gAdd_int, gSub_int, gLt_int, gLe_int, gGt_int, gGe_int, gEq_int, gNe_int, gIx_list, gIx_tuple, gLen_list, gLen_tuple, gMax2_int, gMin2_int, gInt_int, gInt_bool, gAbs_int, gList_list, gTuple_list, truD_list, truD_tuple, truD_bool, gRev_nil, gPopAt_zero, atI_zero, atI_one, atI_two, atI_last1, forL_nil,
  Option.bind_some, Option.bind_none, Option.join_some, List.getElem?_cons_zero, List.getElem?_cons_succ, List.set_cons_zero, List.set_cons_succ, List.length_cons, List.length_nil, ↓reduceIte, Bool.false_eq_true, gApp_if, aLast_ap, outs_ownA, outSl_own, outSl_scr, outs_scr, putBack_at, nodup_one, List.head?_cons, wipeE_nil, wipeE_cons, restE_nil, restE_cons, gSortedB_pairs, gSortedB_tuple, gSum_ints, gAll_bls, gAny_bls, Nat.reduceLeDiff, Nat.reduceLT, Int.reduceNeg, Nat.reduceMul, ne_snoc, set_snoc, DL.ixN_last, List.length_append, List.length_singleton, List.nodup_nil, true_and, and_true, decide_true, decide_false, Bool.and_true, Bool.and_false, Bool.true_and, Bool.false_and, Bool.or_true, Bool.or_false, Bool.true_or, Bool.false_or, *])
/-! zones and hours -/
abbrev z1 : D := .tuple [.int 60, .tuple [.tuple [.int 40, .int 0]]]
abbrev z2 : D := .tuple [.int 0, .tuple []]
abbrev wk : D := .tuple [.tuple [.int 0, .int 10080]]
def okZ (z : D) : Prop := z = z1 ∨ z = z2
theorem at_check_zone {z : D} (h : okZ z) : callF b_check_zone 7 [.val z] = some (.val .none, [none]) := by
  rcases h with rfl | rfl <;> rfl
theorem at_local {z : D} (h : okZ z) (t : Int) : ∃ o, callF b_local 2 [.val z, .val (.int t)] = some (.val (.int o), [none, none]) := by
  rcases h with rfl | rfl
  · by_cases hc : 40 ≤ t
    · refine ⟨t + 0, ?_⟩
      have : callF b_offset_at 5 [.val z1, .val (.int t)] = some (.val (.int 0), [none, none]) := by
        rw [callF_ap]
        unfold b_offset_at
        repeat (first | walk_at "ev" | simp only [forL_cons, g_offset_at_1, l_offset_at_1, hc])
      rw [callF_ap]
      unfold b_local
      repeat (first | walk_at "ev" | simp only [this])
    · refine ⟨t + 60, ?_⟩
      have : callF b_offset_at 5 [.val z1, .val (.int t)] = some (.val (.int 60), [none, none]) := by
        rw [callF_ap]
        unfold b_offset_at
        repeat (first | walk_at "ev" | simp only [forL_cons, g_offset_at_1, l_offset_at_1, hc])
      rw [callF_ap]
      unfold b_local
      repeat (first | walk_at "ev" | simp only [this])
  · refine ⟨t + 0, ?_⟩
    have : callF b_offset_at 5 [.val z2, .val (.int t)] = some (.val (.int 0), [none, none]) := by
      rw [callF_ap]
      unfold b_offset_at
      repeat (first | walk_at "ev" | simp only [forL_cons, g_offset_at_1, l_offset_at_1])
    rw [callF_ap]
    unfold b_local
    repeat (first | walk_at "ev" | simp only [this])
theorem at_open_minute {m : Int} (h0 : 0 ≤ m) (h1 : m < 10080) : callF b_is_open_minute 4 [.val wk, .val (.int m)] = some (.val (.bool true), [none, none]) := by
  rw [callF_ap]
  unfold b_is_open_minute
  repeat (first | walk_at "ev" | simp only [lcLoop, g_is_open_minute_1, e_is_open_minute_1, h0, h1])
  all_goals rfl
theorem at_is_open (t : Int) : callF b_is_open 3 [.val wk, .val (.list []), .val (.int t)] = some (.val (.bool true), [none, none, none]) := by
  rw [callF_ap]
  unfold b_is_open
  have h1 : gDiv (.int t) (.int 1440) = some (.vl (.int (t / 1440))) := gDiv_int (by decide)
  have h2 : gIn false (.int (t / 1440)) (.list []) = some (.vl (.bool false)) := rfl
  have h3 : gMod (.int (t - 1440)) (.int 10080) = some (.vl (.int ((t - 1440) % 10080))) := gMod_int (by decide)
  have h4 := at_open_minute (m := (t - 1440) % 10080) (Int.emod_nonneg _ (by decide)) (Int.emod_lt_of_pos _ (by decide))
  repeat (first | walk_at "ev" | simp only [h1, h2, h3, h4])
  all_goals rfl
theorem at_next_edge (t : Int) : ∃ e, callF b_next_edge 6 [.val wk, .val (.int t)] = some (.val (.int e), [none, none]) ∧ t < e := by
  have h1 : gDiv (.int t) (.int 1440) = some (.vl (.int (t / 1440))) := gDiv_int (by decide)
  have h3 : gMod (.int (t - 1440)) (.int 10080) = some (.vl (.int ((t - 1440) % 10080))) := gMod_int (by decide)
  have h4 : gMul (.int (t / 1440 + 1)) (.int 1440) = some (.vl (.int ((t / 1440 + 1) * 1440))) := gMul_int (.inr (by decide))
  have h5 : ¬ (t < t - (t - 1440) % 10080 + 0) := by omega
  have h6 : t < t - (t - 1440) % 10080 + 10080 := by omega
  have h7 : t < (t / 1440 + 1) * 1440 := by omega
  refine ⟨minI [(t / 1440 + 1) * 1440, t - (t - 1440) % 10080 + 10080], ?_, ?_⟩
  · rw [callF_ap]
    unfold b_next_edge
    repeat (first | walk_at "ev" | simp only [forL_cons, lcLoop, g_next_edge_2, l_next_edge_2, g_next_edge_1, c_next_edge_1, e_next_edge_1, h1, h3, h4, h5, h6])
    all_goals rfl
  · unfold minI
    simp only []
    unfold minI
    split <;> assumption
theorem gAdd_11 {a b : D} : gAdd (.list [a]) (.list [b]) = some (.ls [a, b]) := gAdd_list (show 1 + 1 ≤ 16777216 by decide)
theorem gAdd_10 {a : D} : gAdd (.list [a]) (.list []) = some (.ls [a]) := gAdd_list (show 1 + 0 ≤ 16777216 by decide)
theorem gMin_one {a : Int} : gMin [.list [.int a]] = some (.vl (.int a)) := rfl
theorem gMin_two {a b : Int} : gMin [.list [.int a, .int b]] = some (.vl (.int (minI [a, b]))) := rfl
theorem gNe_tt : gNe (.bool true) (.bool true) = some (.vl (.bool false)) := rfl
theorem minI_gt {t a b : Int} (h1 : t < a) (h2 : t < b) : t < minI [a, b] := by
  unfold minI
  simp only []
  unfold minI
  split <;> assumption
theorem turn_step {z : D} (h : okZ z) {tick t : Int} {x y : Option Sl} : ∃ t' x' y', t < t' ∧ l_next_turn_2 [some (.val wk), some (.val (.list [])), some (.val z), some (.val (.int tick)), some (.val (.bool true)), some (.val (.int t)), x, y, none, none] =
    some (if tick + 20000 < t' then .rt (.val .none) else .nx, [some (.val wk), some (.val (.list [])), some (.val z), some (.val (.int tick)), some (.val (.bool true)), some (.val (.int t')), x', y', none, none]) := by
  obtain ⟨o, ho⟩ := at_local h t
  obtain ⟨e, he, hlt⟩ := at_next_edge o
  have hg : t < t + e - o := by omega
  unfold l_next_turn_2
  rcases h with rfl | rfl
  · by_cases h40 : t < 40
    · obtain ⟨t', ht'⟩ : ∃ t', minI [t + e - o, 40] = t' := ⟨_, rfl⟩
      obtain ⟨o', ho'⟩ := at_local (.inl rfl) t'
      refine ⟨t', some (.val (.int o)), some (.own false [.int (t + e - o), .int 40]), ht' ▸ minI_gt hg h40, ?_⟩
      by_cases hz : tick + 20000 < t'
      · rw [if_pos hz]
        repeat (first | walk_at "ev" | simp only [lcLoop, g_next_turn_1, c_next_turn_1, e_next_turn_1, ho, he, h40, gAdd_11, gAdd_10, gMin_two, ht', hz])
        all_goals rfl
      · rw [if_neg hz]
        repeat (first | walk_at "ev" | simp only [lcLoop, g_next_turn_1, c_next_turn_1, e_next_turn_1, ho, he, h40, gAdd_11, gAdd_10, gMin_two, ht', hz, ho', at_is_open, gNe_tt])
        all_goals rfl
    · obtain ⟨t', ht'⟩ : ∃ t', t + e - o = t' := ⟨_, rfl⟩
      obtain ⟨o', ho'⟩ := at_local (.inl rfl) t'
      refine ⟨t', some (.val (.int o)), some (.own false [.int t']), ht' ▸ hg, ?_⟩
      by_cases hz : tick + 20000 < t'
      · rw [if_pos hz]
        repeat (first | walk_at "ev" | simp only [lcLoop, g_next_turn_1, c_next_turn_1, e_next_turn_1, ho, he, h40, gAdd_11, gAdd_10, gMin_one, ht', hz])
        all_goals rfl
      · rw [if_neg hz]
        repeat (first | walk_at "ev" | simp only [lcLoop, g_next_turn_1, c_next_turn_1, e_next_turn_1, ho, he, h40, gAdd_11, gAdd_10, gMin_one, ht', hz, ho', at_is_open, gNe_tt])
        all_goals rfl
  · obtain ⟨t', ht'⟩ : ∃ t', t + e - o = t' := ⟨_, rfl⟩
    obtain ⟨o', ho'⟩ := at_local (.inr rfl) t'
    refine ⟨t', some (.val (.int o)), some (.own false [.int t']), ht' ▸ hg, ?_⟩
    by_cases hz : tick + 20000 < t'
    · rw [if_pos hz]
      repeat (first | walk_at "ev" | simp only [lcLoop, ho, he, gAdd_11, gAdd_10, gMin_one, ht', hz])
      all_goals rfl
    · rw [if_neg hz]
      repeat (first | walk_at "ev" | simp only [lcLoop, ho, he, gAdd_11, gAdd_10, gMin_one, ht', hz, ho', at_is_open, gNe_tt])
      all_goals rfl
theorem at_next_turn {z : D} (h : okZ z) (t : Int) : callF b_next_turn 10 [.val wk, .val (.list []), .val z, .val (.int t)] = some (.val .none, [none, none, none, none]) := by
  obtain ⟨o, ho⟩ := at_local h t
  obtain ⟨fl, ρ', h1, h2⟩ := dWhile_rel (h := h_next_turn_2) (b := l_next_turn_2) (σ := Int)
    (fun s ρ => s ≤ t + 20000 ∧ ∃ x y, ρ = [some (.val wk), some (.val (.list [])), some (.val z), some (.val (.int t)), some (.val (.bool true)), some (.val (.int s)), x, y, none, none])
    (fun s => (t + 20001 - s).toNat)
    (fun fl ρ => fl = .rt (.val .none) ∧ ∃ (a : Option Sl) (b : Option Sl × Option Sl), ρ = [some (.val wk), some (.val (.list [])), some (.val z), some (.val (.int t)), some (.val (.bool true)), a, b.1, b.2, none, none])
    (fun s ρ hS => by
      obtain ⟨hs, x, y, rfl⟩ := hS
      obtain ⟨t', x', y', hlt, e⟩ := turn_step h (tick := t) (t := s) (x := x) (y := y)
      refine ⟨true, _, rfl, (fun q => by cases q), fun _ => ?_⟩
      by_cases hz : t + 20000 < t'
      · rw [if_pos hz] at e
        exact ⟨_, _, e, rfl, _, (x', y'), rfl⟩
      · rw [if_neg hz] at e
        exact ⟨_, _, e, t', ⟨by omega, x', y', rfl⟩, by omega⟩)
    t [some (.val wk), some (.val (.list [])), some (.val z), some (.val (.int t)), some (.val (.bool true)), some (.val (.int t)), none, none, none, none] (by omega) ⟨by omega, none, none, rfl⟩
  obtain ⟨rfl, a, b, rfl⟩ := h2
  rw [callF_ap]
  unfold b_next_turn
  repeat (first | walk_at "ev" | simp only [ho, at_is_open] | rw [h1])
/-! open spells -/
theorem at_open_spells {z d : D} (h : okZ z) {s e : Int} (hs : s ≤ e) (he : e < s + 10000) : callF b_open_spells 11 [.val (.tuple [z, wk, .list [], d]), .val (.int s), .val (.int e)] = some (.new (.own false (prs [(s, e)])), [none, none, none]) := by
  obtain ⟨o, ho⟩ := at_local h s
  have hst : l_open_spells_1 [some (.val (.tuple [z, wk, .list [], d])), some (.val (.int s)), some (.val (.int e)), some (.val z), some (.val wk), some (.val (.list [])), some (.val d), some (.own false []), some (.val (.int s)), none, none] =
      some (.nx, [some (.val (.tuple [z, wk, .list [], d])), some (.val (.int s)), some (.val (.int e)), some (.val z), some (.val wk), some (.val (.list [])), some (.val d), some (.own false [prD (s, e)]), some (.val (.int (s + 20000 + 1))), some (.val .none), some (.val (.int (s + 20000 + 1)))]) := by
    unfold l_open_spells_1
    have hm : (if e < s + 20000 + 1 - 1 then e else s + 20000 + 1 - 1) = e := if_pos (by omega)
    have hn : gIsN .none .none = some (.vl (.bool true)) := rfl
    repeat (first | walk_at "ev" | simp only [at_next_turn h, hn, ho, at_is_open, hm])
    all_goals rfl
  have h1 : h_open_spells_1 [some (.val (.tuple [z, wk, .list [], d])), some (.val (.int s)), some (.val (.int e)), some (.val z), some (.val wk), some (.val (.list [])), some (.val d), some (.own false []), some (.val (.int s)), none, none] = some (true, [some (.val (.tuple [z, wk, .list [], d])), some (.val (.int s)), some (.val (.int e)), some (.val z), some (.val wk), some (.val (.list [])), some (.val d), some (.own false []), some (.val (.int s)), none, none]) := by
    unfold h_open_spells_1
    repeat (first | walk_at "ev" | simp only [hs])
  have h2 : h_open_spells_1 [some (.val (.tuple [z, wk, .list [], d])), some (.val (.int s)), some (.val (.int e)), some (.val z), some (.val wk), some (.val (.list [])), some (.val d), some (.own false [prD (s, e)]), some (.val (.int (s + 20000 + 1))), some (.val .none), some (.val (.int (s + 20000 + 1)))] = some (false, [some (.val (.tuple [z, wk, .list [], d])), some (.val (.int s)), some (.val (.int e)), some (.val z), some (.val wk), some (.val (.list [])), some (.val d), some (.own false [prD (s, e)]), some (.val (.int (s + 20000 + 1))), some (.val .none), some (.val (.int (s + 20000 + 1)))]) := by
    unfold h_open_spells_1
    have hs' : ¬ s + 20000 + 1 ≤ e := by omega
    repeat (first | walk_at "ev" | simp only [hs'])
  rw [callF_ap]
  unfold b_open_spells
  have hw := dWhile_go (b := l_open_spells_1) h1 hst h2
  have hj := at_joined (ps := [(s, e)]) (show 1 < 1000000 by decide)
  have hj : callF b_joined 4 [.val (.list [prD (s, e)])] = some (.new (.own false (prs [(s, e)])), [none]) := hj
  repeat (first | walk_at "ev" | simp only [hw, hj])
end K80

namespace K80
open PySem PySem.Spec PyProof.Rows L2 DL

local macro_rules | `(tactic| walk_at "ev") => `(tactic| simp only [dVar_ap, dC_ap, dOp_ap, dNeg_ap, dTest_ap, dTruth_ap, hAnd_ap, hOr_ap, hNot_ap, hYes_ap, dAnd_ap, dOr_ap, dNot_ap, dIf_ap, dChain_ap, aNil_ap, aCons_ap, aVal_ap, aLend_ap, kNil_ap, kCons_ap, dCB_ap, dTup_ap, dLst_ap, dSl_ap, oNone_ap, oSome_ap, dMut_ap, dListScr_ap, dRgL_ap, twoI_ap, dLc_ap, dCallN_ap, dSkip_ap, dSeq_ap, dAsg_ap, dAsgG_ap, dExpr_ap, dRet_ap, dRetN_ap, dBrk_ap, dCnt_ap, dIfS_ap, dAug_ap, dSetI_ap, dFor_ap, dPar2_ap, dPar3_ap, iAny_ap, iRng1_ap, iRng2_ap, iZip_ap, gN_ap, gT_ap, gsNil_ap, gsCons_ap, forS_ap, retR_val, retR_new, retR_at, outs_nil, outs_val, List.map_cons, List.map_nil, List.cons_append, List.nil_append, List.reduceReplicate, Nat.reduceSub, Nat.reduceAdd, List.tail_cons, List.isEmpty_cons, List.isEmpty_nil, Bool.not_true, Bool.not_false,
  storeR_val, storeR_new, storeR_at, DL.settle_val, DL.settle_new, DL.settle_at, stab_val, stab_new, stab_at, dat_val, dat_new, dat_at, data_val, data_own, data_dic, keepS_val, keepS_new, keepS_at, dats_nil, dats_cons, vals_nil, vals_cons, ores_vl, ores_ls, ores_tp, ores_dc, argSl_nil, argSl_val, argSl_at, lentAt_nil, lentAt_val, lentAt_at, putBack_nil, putBack_val, tail_cons,
  gAdd_int, gSub_int, gLt_int, gLe_int, gGt_int, gGe_int, gEq_int, gNe_int, gIx_list, gIx_tuple, gLen_list, gLen_tuple, gMax2_int, gMin2_int, gInt_int, gInt_bool, gAbs_int, gList_list, gTuple_list, truD_list, truD_tuple, truD_bool, gRev_nil, gPopAt_zero, atI_zero, atI_one, atI_two, atI_last1, forL_nil,
  Option.bind_some, Option.bind_none, Option.join_some, List.getElem?_cons_zero, List.getElem?_cons_succ, List.set_cons_zero, List.set_cons_succ, List.length_cons, List.length_nil, ↓reduceIte, Bool.false_eq_true, gApp_if, aLast_ap, outs_ownA, outSl_own, outSl_scr, outs_scr, putBack_at, nodup_one, List.head?_cons, wipeE_nil, wipeE_cons, restE_nil, restE_cons, gSortedB_pairs, gSortedB_tuple, gSum_ints, gAll_bls, gAny_bls, Nat.reduceLeDiff, Nat.reduceLT, Int.reduceNeg, Nat.reduceMul, ne_snoc, set_snoc, DL.ixN_last, List.length_append, List.length_singleton, List.nodup_nil, true_and, and_true, decide_true, decide_false, Bool.and_true, Bool.and_false, Bool.true_and, Bool.false_and, Bool.or_true, Bool.or_false, Bool.true_or, Bool.false_or])
local macro_rules | `(tactic| walk_at "evs") => `(tactic| simp only [dVar_ap, dC_ap, dOp_ap, dNeg_ap, dTest_ap, dTruth_ap, hAnd_ap, hOr_ap, hNot_ap, hYes_ap, dAnd_ap, dOr_ap, dNot_ap, dIf_ap, dChain_ap, aNil_ap, aCons_ap, aVal_ap, aLend_ap, kNil_ap, kCons_ap, dCB_ap, dTup_ap, dLst_ap, dSl_ap, oNone_ap, oSome_ap, dMut_ap, dListScr_ap, dRgL_ap, twoI_ap, dLc_ap, dCallN_ap, dSkip_ap, dSeq_ap, dAsg_ap, dAsgG_ap, dExpr_ap, dRet_ap, dRetN_ap, dBrk_ap, dCnt_ap, dIfS_ap, dAug_ap, dSetI_ap, dFor_ap, dPar2_ap, dPar3_ap, iAny_ap, iRng1_ap, iRng2_ap, iZip_ap, gN_ap, gT_ap, gsNil_ap, gsCons_ap, forS_ap, retR_val, retR_new, retR_at, outs_nil, outs_val, List.map_cons, List.map_nil, List.cons_append, List.nil_append, List.reduceReplicate, Nat.reduceSub, Nat.reduceAdd, List.tail_cons, List.isEmpty_cons, List.isEmpty_nil, Bool.not_true, Bool.not_false,
  storeR_val, storeR_new, storeR_at, DL.settle_val, DL.settle_new, DL.settle_at, stab_val, stab_new, stab_at, dat_val, dat_new, dat_at, data_val, data_own, data_dic, keepS_val, keepS_new, keepS_at, dats_nil, dats_cons, vals_nil, vals_cons, ores_vl, ores_ls, ores_tp, ores_dc, argSl_nil, argSl_val, argSl_at, lentAt_nil, lentAt_val, lentAt_at, putBack_nil, putBack_val, tail_cons,
  gAdd_int, gSub_int, gLt_int, gLe_int, gGt_int, gGe_int, gEq_int, gNe_int, gIx_list, gIx_tuple, gLen_list, gLen_tuple, gMax2_int, gMin2_int, gInt_int, gInt_bool, gAbs_int, gList_list, gTuple_list, truD_list, truD_tuple, truD_bool, gRev_nil, gPopAt_zero, atI_zero, atI_one, atI_two, atI_last1, forL_nil,
  Option.bind_some, Option.bind_none, Option.join_some, List.getElem?_cons_zero, List.getElem?_cons_succ, List.set_cons_zero, List.set_cons_succ, List.length_cons, List.length_nil, ↓reduceIte, Bool.false_eq_true, gApp_if, aLast_ap, outs_ownA, outSl_own, outSl_scr, outs_scr, putBack_at, nodup_one, List.head?_cons, wipeE_nil, wipeE_cons, restE_nil, restE_cons, gSortedB_pairs, gSortedB_tuple, gSum_ints, gAll_bls, gAny_bls, Nat.reduceLeDiff, Nat.reduceLT, Int.reduceNeg, Nat.reduceMul, ne_snoc, set_snoc, DL.ixN_last, List.length_append, List.length_singleton, List.nodup_nil, true_and, and_true, decide_true, decide_false, Bool.and_true, Bool.and_false, Bool.true_and, Bool.false_and, Bool.or_true, Bool.or_false, Bool.true_or, Bool.false_or, *])
/-! gaps -/
theorem gap_step {p : Int × Int} {k n : Int} {v0 v1 x y : Option Sl} :
    forS g_first_gap_1 l_first_gap_1 (prD (sh p)) [v0, v1, some (.val (.int n)), some (.val (.int k)), x, y] =
      some (.nx, [v0, v1, some (.val (.int n)), some (.val (.int (if p.2 + 1 > k ∧ p.1 < k + n then p.2 + 1 else k))), some (.val (.int p.1)), some (.val (.int (p.2 + 1)))]) := by
  obtain ⟨p1, p2⟩ := p
  unfold g_first_gap_1 l_first_gap_1 sh
  simp only [prD_eq, GT.gt]
  by_cases h1 : k < p2 + 1
  · by_cases h2 : p1 < k + n
    · repeat (first | walk_at "ev" | simp only [h1, h2, and_self])
    · repeat (first | walk_at "ev" | simp only [h1, h2, and_false])
  · repeat (first | walk_at "ev" | simp only [h1, false_and])
theorem gap_loop {n : Int} {v0 v1 : Option Sl} : ∀ (ps : Sp) (k : Int) (x y : Option Sl), ∃ x' y', forL g_first_gap_1 l_first_gap_1 (prs (ps.map sh)) [v0, v1, some (.val (.int n)), some (.val (.int k)), x, y] = some (.nx, [v0, v1, some (.val (.int n)), some (.val (.int (gp n k ps))), x', y'])
  | [], k, x, y => ⟨x, y, rfl⟩
  | p :: ps, k, x, y => by
    have e : prs ((p :: ps).map sh) = prD (sh p) :: prs (ps.map sh) := rfl
    have eg : gp n k (p :: ps) = gp n (if p.2 + 1 > k ∧ p.1 < k + n then p.2 + 1 else k) ps := by
      unfold gp
      split
      · cases ps <;> rfl
      · cases ps <;> rfl
    rw [e, forL_nx gap_step, eg]
    exact gap_loop ps _ _ _
theorem at_first_gap {ps : Sp} {k n : Int} (h : ps.length ≤ 200) (hv : ∀ p ∈ ps, p.1 ≤ p.2) : callF b_first_gap 6 [.val (.tuple (prs (ps.map sh))), .val (.int k), .val (.int n)] = some (.val (.int (gp n k (sortP ps))), [none, none, none]) := by
  rw [callF_ap]
  unfold b_first_gap
  have hb := at_check_bookings (ps := ps.map sh) (by rw [List.length_map]; exact h) (fun p hp => by
    obtain ⟨q, hq, rfl⟩ := List.mem_map.mp hp
    have := hv q hq
    unfold sh
    dsimp only
    omega)
  obtain ⟨x', y', e⟩ := gap_loop (n := n) (v0 := some (.val (.tuple (prs (ps.map sh))))) (v1 := some (.val (.int k))) (sortP ps) k none none
  repeat (first | walk_at "ev" | simp only [hb, sortP_sh, e])
/-! right -/
theorem nm_at : ∀ {ps : Sp} {i : Nat} {p q : Int × Int}, Nm ps → ps[i]? = some p → ps[i + 1]? = some q → p.2 + 2 ≤ q.1
  | [], _, _, _, _, h, _ => by simp at h
  | p :: ps, 0, _, q, hn, h, h2 => by
    simp only [List.getElem?_cons_zero, Option.some.injEq] at h
    subst h
    exact hn.2.1 q (List.mem_of_getElem? h2)
  | p :: ps, i + 1, _, _, hn, h, h2 => nm_at hn.2.2 h h2
theorem atI_prs {ps : Sp} {i : Nat} {p : Int × Int} (h : ps[i]? = some p) : atI (prs ps) ((i : Nat) : Int) = some (prD p) := by
  refine atI_nat ?_
  rw [prs, List.getElem?_map, h]
  rfl
theorem right_comp {ps : Sp} (h : Nm ps) : lcLoop g__law_is_right_1 c__law_is_right_1 e__law_is_right_1 [2, 3] (prs ps) [] [some (.val (.list (prs ps))), none, none, none] = some ([], [some (.val (.list (prs ps))), none, none, none]) :=
  lcLoop_none _ _ fun d hd => by
    obtain ⟨⟨p1, p2⟩, hp, rfl⟩ := List.mem_map.mp hd
    have hv := h.val _ hp
    have hv' : ¬ p2 < p1 := by dsimp only at hv; omega
    refine ⟨[some (.val (.list (prs ps))), none, some (.val (.int p1)), some (.val (.int p2))], [some (.val (.list (prs ps))), none, some (.val (.int p1)), some (.val (.int p2))], rfl, ?_, rfl⟩
    unfold c__law_is_right_1
    repeat (first | walk_at "ev" | simp only [hv'])
theorem right_comp2 {ps : Sp} (h : Nm ps) : lcLoop g__law_is_right_2 c__law_is_right_2 e__law_is_right_2 [1] (rangeD 0 ((ps.length : Int) - 1).toNat) [] [some (.val (.list (prs ps))), none, none, none] = some ([], [some (.val (.list (prs ps))), none, none, none]) :=
  lcLoop_none _ _ fun d hd => by
    unfold rangeD at hd
    obtain ⟨i, hi, rfl⟩ := List.mem_map.mp hd
    have hi := List.mem_range.mp hi
    have l1 : i < ps.length := by omega
    have l2 : i + 1 < ps.length := by omega
    obtain ⟨⟨p1, p2⟩, hp⟩ : ∃ p, ps[i]? = some p := ⟨_, List.getElem?_eq_getElem l1⟩
    obtain ⟨⟨q1, q2⟩, hq⟩ : ∃ p, ps[i + 1]? = some p := ⟨_, List.getElem?_eq_getElem l2⟩
    have hn := nm_at h hp hq
    have hn' : ¬ q1 < p2 + 2 := by dsimp only at hn; omega
    have e0 : (0 : Int) + (i : Int) = (i : Int) := by omega
    have e1 : (i : Int) + 1 = ((i + 1 : Nat) : Int) := by omega
    have a0 := atI_prs hp
    have a1 := atI_prs hq
    refine ⟨[some (.val (.list (prs ps))), some (.val (.int (i : Int))), none, none], [some (.val (.list (prs ps))), some (.val (.int (i : Int))), none, none], by rw [e0]; rfl, ?_, rfl⟩
    unfold c__law_is_right_2
    repeat (first | walk_at "ev" | simp only [e1, a0, a1, hn', prD_eq])
theorem at_right {ps : Sp} (h : Nm ps) (hl : ps.length < 1000000) : callF b__law_is_right 4 [.val (.list (prs ps))] = some (.val (.bool true), [none]) := by
  rw [callF_ap]
  unfold b__law_is_right
  have hb : (((0 : Nat) : Int) == 0) = true := rfl
  have hr : -4611686018427387904 ≤ (ps.length : Int) - 1 ∧ (ps.length : Int) - 1 < 4611686018427387904 := by omega
  repeat (first | walk_at "ev" | simp only [right_comp h, right_comp2 h, hb, prs_len, Int.reducePow, Int.reduceNeg, hr, and_self])
/-! persons -/
abbrev pn1 (a : Sp) : D := .tuple [z1, wk, .list [], .tuple (prs (a.map sh))]
abbrev pn2 (a : Sp) : D := .tuple [z2, wk, .list [], .tuple (prs (a.map sh))]
abbrev pns (a b : Sp) : D := .tuple [pn1 a, pn2 b]
def okB (a : Sp) : Prop := a.length ≤ 100 ∧ ∀ p ∈ a, p.1 ≤ p.2
theorem okB_check {a : Sp} (h : okB a) : callF b_check_bookings 3 [.val (.tuple (prs (a.map sh)))] = some (.val .none, [none]) := at_check_bookings (by rw [List.length_map]; have := h.1; omega) fun p hp => by
    obtain ⟨q, hq, rfl⟩ := List.mem_map.mp hp
    have := h.2 q hq
    unfold sh
    dsimp only
    omega
theorem at_check_persons {a b : Sp} {s e : Int} (ha : okB a) (hb : okB b) (hs : s ≤ e) (he : e < s + 10000) : callF b_check_persons 6 [.val (pns a b), .val (.int s), .val (.int e)] = some (.val .none, [none, none, none]) := by
  rw [callF_ap]
  unfold b_check_persons
  have h1 : (1 : Int) ≤ ((1 + 1 : Nat) : Int) := by decide
  have h2 : ((1 + 1 : Nat) : Int) ≤ 8 := by decide
  have h1' : (1 : Int) ≤ ((2 : Nat) : Int) := by decide
  have h2' : ((2 : Nat) : Int) ≤ 8 := by decide
  have h3 : e ≤ s + 20160 := by omega
  have c1 := at_check_zone (z := z1) (.inl rfl)
  have c2 := at_check_zone (z := z2) (.inr rfl)
  have c3 := okB_check ha
  have c4 := okB_check hb
  repeat (first | walk_at "ev" | simp only [forL_cons, g_check_persons_1, l_check_persons_1, h1, h2, h1', h2', h3, hs, c1, c2, c3, c4])
theorem rest_len (ps : Sp) (s e : Int) : (restF ps s e).length ≤ ps.length + 1 := by
  unfold restF
  have h1 := List.length_filter_le okS (rs e s ps)
  have h2 := rsA_len e ps s
  rw [rs_split, List.length_append] at h1
  rw [rs_split]
  have h3 : (if rsK s ps ≤ e then [(rsK s ps, e)] else []).length ≤ 1 := by split <;> simp
  omega
theorem both_len (a b : Sp) : (bothF a b).length ≤ a.length + b.length := Nat.le_trans (joined_len _) (bt_len a b)
theorem either_len (a b : Sp) : (eitherF a b).length ≤ a.length + b.length := by
  have h := joined_len (sortP (a ++ b))
  rw [(sortP_perm _).length_eq, List.length_append] at h
  exact h
theorem at_common_times {a b : Sp} {s e : Int} (ha : okB a) (hb : okB b) (hs : s ≤ e) (he : e < s + 10000) : callF b_common_times 6 [.val (pns a b), .val (.int s), .val (.int e)] =
    some (.new (.own false (prs (bothF (bothF [(s, e)] (bothF [(s, e)] (restF (sortP a) s e))) (bothF [(s, e)] (restF (sortP b) s e))))), [none, none, none]) := by
  obtain ⟨S, hS⟩ : ∃ S : Sp, S = [(s, e)] := ⟨_, rfl⟩
  have hS1 : [PyData.tuple [.int s, .int e]] = prs S := by rw [hS]; rfl
  have hSl : S.length = 1 := by rw [hS]; rfl
  have o1 := at_open_spells (z := z1) (d := .tuple (prs (a.map sh))) (.inl rfl) hs he
  have o2 := at_open_spells (z := z2) (d := .tuple (prs (b.map sh))) (.inr rfl) hs he
  rw [← hS] at o1 o2 ⊢
  have f1 := at_free_spells (ps := a) (s := s) (e := e) (by have := ha.1; omega) ha.2 hs
  have f2 := at_free_spells (ps := b) (s := s) (e := e) (by have := hb.1; omega) hb.2 hs
  obtain ⟨fa, hfa⟩ : ∃ fa, fa = restF (sortP a) s e := ⟨_, rfl⟩
  obtain ⟨fb, hfb⟩ : ∃ fb, fb = restF (sortP b) s e := ⟨_, rfl⟩
  have la : fa.length ≤ 101 := by rw [hfa]; have := rest_len (sortP a) s e; rw [(sortP_perm a).length_eq] at this; have := ha.1; omega
  have lb : fb.length ≤ 101 := by rw [hfb]; have := rest_len (sortP b) s e; rw [(sortP_perm b).length_eq] at this; have := hb.1; omega
  rw [← hfa] at f1 ⊢
  rw [← hfb] at f2 ⊢
  have b1 := at_both (a := S) (b := fa) (by omega)
  have b2 := at_both (a := S) (b := bothF S fa) (by have := both_len S fa; omega)
  have b3 := at_both (a := S) (b := fb) (by omega)
  have b4 := at_both (a := bothF S (bothF S fa)) (b := bothF S fb) (by have := both_len S (bothF S fa); have := both_len S fa; have := both_len S fb; omega)
  have c := at_check_persons ha hb hs he
  rw [callF_ap]
  unfold b_common_times
  repeat (first | walk_at "ev" | simp only [forL_cons, g_common_times_1, l_common_times_1, hS1, c, o1, o2, f1, f2, b1, b2, b3, b4, atI_three])
theorem common_loop {n : Int} {v0 v1 v2 : Option Sl} : ∀ (ps : Sp) (x y : Option Sl), ∃ x' y', forL g_first_common_1 l_first_common_1 (prs ps) [v0, v1, v2, some (.val (.int n)), x, y] =
    some ((match ps.find? (lng n) with
      | some p => Fl.rt (.val (.int p.1))
      | none => Fl.nx), [v0, v1, v2, some (.val (.int n)), x', y'])
  | [], x, y => ⟨x, y, rfl⟩
  | (p1, p2) :: ps, x, y => by
    by_cases h : n ≤ p2 - p1 + 1
    · have hl : lng n (p1, p2) = true := decide_eq_true h
      rw [List.find?_cons, hl]
      refine ⟨_, _, forL_rt (ρ' := [v0, v1, v2, some (.val (.int n)), some (.val (.int p1)), some (.val (.int p2))]) ?_⟩
      unfold g_first_common_1 l_first_common_1
      simp only [prD_eq]
      repeat (first | walk_at "ev" | simp only [h])
    · have hl : lng n (p1, p2) = false := decide_eq_false h
      rw [List.find?_cons, hl]
      have hs : forS g_first_common_1 l_first_common_1 (prD (p1, p2)) [v0, v1, v2, some (.val (.int n)), x, y] = some (.nx, [v0, v1, v2, some (.val (.int n)), some (.val (.int p1)), some (.val (.int p2))]) := by
        unfold g_first_common_1 l_first_common_1
        simp only [prD_eq]
        repeat (first | walk_at "ev" | simp only [h])
      rw [prs_cons, forL_nx hs]
      exact common_loop ps _ _
def fst? (o : Option (Int × Int)) : D := match o with
  | some p => .int p.1
  | none => .none
theorem at_first_common {a b : Sp} {s e n : Int} (ha : okB a) (hb : okB b) (hs : s ≤ e) (he : e < s + 10000) : callF b_first_common 6 [.val (pns a b), .val (.int s), .val (.int e), .val (.int n)] =
    some (.val (fst? ((bothF (bothF [(s, e)] (bothF [(s, e)] (restF (sortP a) s e))) (bothF [(s, e)] (restF (sortP b) s e))).find? (lng n))), [none, none, none, none]) := by
  have c := at_common_times ha hb hs he
  obtain ⟨x', y', e1⟩ := common_loop (n := n) (v0 := some (.val (pns a b))) (v1 := some (.val (.int s))) (v2 := some (.val (.int e))) (bothF (bothF [(s, e)] (bothF [(s, e)] (restF (sortP a) s e))) (bothF [(s, e)] (restF (sortP b) s e))) none none
  revert c e1
  generalize bothF (bothF [(s, e)] (bothF [(s, e)] (restF (sortP a) s e))) (bothF [(s, e)] (restF (sortP b) s e)) = ct
  intro c e1
  rw [callF_ap]
  unfold b_first_common
  repeat (first | walk_at "ev" | simp only [c, e1])
  cases ct.find? (lng n) with
  | none => rfl
  | some p => rfl
end K80

namespace K80
open PySem PySem.Spec PyProof.Rows L2 DL

local macro_rules | `(tactic| walk_at "ev") => `(tactic| simp only [dVar_ap, dC_ap, dOp_ap, dNeg_ap, dTest_ap, dTruth_ap, hAnd_ap, hOr_ap, hNot_ap, hYes_ap, dAnd_ap, dOr_ap, dNot_ap, dIf_ap, dChain_ap, aNil_ap, aCons_ap, aVal_ap, aLend_ap, kNil_ap, kCons_ap, dCB_ap, dTup_ap, dLst_ap, dSl_ap, oNone_ap, oSome_ap, dMut_ap, dListScr_ap, dRgL_ap, twoI_ap, dLc_ap, dCallN_ap, dSkip_ap, dSeq_ap, dAsg_ap, dAsgG_ap, dExpr_ap, dRet_ap, dRetN_ap, dBrk_ap, dCnt_ap, dIfS_ap, dAug_ap, dSetI_ap, dFor_ap, dPar2_ap, dPar3_ap, iAny_ap, iRng1_ap, iRng2_ap, iZip_ap, gN_ap, gT_ap, gsNil_ap, gsCons_ap, forS_ap, retR_val, retR_new, retR_at, outs_nil, outs_val, List.map_cons, List.map_nil, List.cons_append, List.nil_append, List.reduceReplicate, Nat.reduceSub, Nat.reduceAdd, List.tail_cons, List.isEmpty_cons, List.isEmpty_nil, Bool.not_true, Bool.not_false,
  storeR_val, storeR_new, storeR_at, DL.settle_val, DL.settle_new, DL.settle_at, stab_val, stab_new, stab_at, dat_val, dat_new, dat_at, data_val, data_own, data_dic, keepS_val, keepS_new, keepS_at, dats_nil, dats_cons, vals_nil, vals_cons, ores_vl, ores_ls, ores_tp, ores_dc, argSl_nil, argSl_val, argSl_at, lentAt_nil, lentAt_val, lentAt_at, putBack_nil, putBack_val, tail_cons,
  gAdd_int, gSub_int, gLt_int, gLe_int, gGt_int, gGe_int, gEq_int, gNe_int, gIx_list, gIx_tuple, gLen_list, gLen_tuple, gMax2_int, gMin2_int, gInt_int, gInt_bool, gAbs_int, gList_list, gTuple_list, truD_list, truD_tuple, truD_bool, gRev_nil, gPopAt_zero, atI_zero, atI_one, atI_two, atI_last1, forL_nil,
  Option.bind_some, Option.bind_none, Option.join_some, List.getElem?_cons_zero, List.getElem?_cons_succ, List.set_cons_zero, List.set_cons_succ, List.length_cons, List.length_nil, ↓reduceIte, Bool.false_eq_true, gApp_if, aLast_ap, outs_ownA, outSl_own, outSl_scr, outs_scr, putBack_at, nodup_one, List.head?_cons, wipeE_nil, wipeE_cons, restE_nil, restE_cons, gSortedB_pairs, gSortedB_tuple, gSum_ints, gAll_bls, gAny_bls, Nat.reduceLeDiff, Nat.reduceLT, Int.reduceNeg, Nat.reduceMul, ne_snoc, set_snoc, DL.ixN_last, List.length_append, List.length_singleton, List.nodup_nil, true_and, and_true, decide_true, decide_false, Bool.and_true, Bool.and_false, Bool.true_and, Bool.false_and, Bool.or_true, Bool.or_false, Bool.true_or, Bool.false_or])
local macro_rules | `(tactic| walk_at "evs") => `(tactic| simp only [dVar_ap, dC_ap, dOp_ap, dNeg_ap, dTest_ap, dTruth_ap, hAnd_ap, hOr_ap, hNot_ap, hYes_ap, dAnd_ap, dOr_ap, dNot_ap, dIf_ap, dChain_ap, aNil_ap, aCons_ap, aVal_ap, aLend_ap, kNil_ap, kCons_ap, dCB_ap, dTup_ap, dLst_ap, dSl_ap, oNone_ap, oSome_ap, dMut_ap, dListScr_ap, dRgL_ap, twoI_ap, dLc_ap, dCallN_ap, dSkip_ap, dSeq_ap, dAsg_ap, dAsgG_ap, dExpr_ap, dRet_ap, dRetN_ap, dBrk_ap, dCnt_ap, dIfS_ap, dAug_ap, dSetI_ap, dFor_ap, dPar2_ap, dPar3_ap, iAny_ap, iRng1_ap, iRng2_ap, iZip_ap, gN_ap, gT_ap, gsNil_ap, gsCons_ap, forS_ap, retR_val, retR_new, retR_at, outs_nil, outs_val, List.map_cons, List.map_nil, List.cons_append, List.nil_append, List.reduceReplicate, Nat.reduceSub, Nat.reduceAdd, List.tail_cons, List.isEmpty_cons, List.isEmpty_nil, Bool.not_true, Bool.not_false,
  storeR_val, storeR_new, storeR_at, DL.settle_val, DL.settle_new, DL.settle_at, stab_val, stab_new, stab_at, dat_val, dat_new, dat_at, data_val, data_own, data_dic, keepS_val, keepS_new, keepS_at, dats_nil, dats_cons, vals_nil, vals_cons, ores_vl, ores_ls, ores_tp, ores_dc, argSl_nil, argSl_val, argSl_at, lentAt_nil, lentAt_val, lentAt_at, putBack_nil, putBack_val, tail_cons,
  gAdd_int, gSub_int, gLt_int, gLe_int, gGt_int, gGe_int, gEq_int, gNe_int, gIx_list, gIx_tuple, gLen_list, gLen_tuple, gMax2_int, gMin2_int, gInt_int, gInt_bool, gAbs_int, gList_list, gTuple_list, truD_list, truD_tuple, truD_bool, gRev_nil, gPopAt_zero, atI_zero, atI_one, atI_two, atI_last1, forL_nil,
  Option.bind_some, Option.bind_none, Option.join_some, List.getElem?_cons_zero, List.getElem?_cons_succ, List.set_cons_zero, List.set_cons_succ, List.length_cons, List.length_nil, ↓reduceIte, Bool.false_eq_true, gApp_if, aLast_ap, outs_ownA, outSl_own, outSl_scr, outs_scr, putBack_at, nodup_one, List.head?_cons, wipeE_nil, wipeE_cons, restE_nil, restE_cons, gSortedB_pairs, gSortedB_tuple, gSum_ints, gAll_bls, gAny_bls, Nat.reduceLeDiff, Nat.reduceLT, Int.reduceNeg, Nat.reduceMul, ne_snoc, set_snoc, DL.ixN_last, List.length_append, List.length_singleton, List.nodup_nil, true_and, and_true, decide_true, decide_false, Bool.and_true, Bool.and_false, Bool.true_and, Bool.false_and, Bool.or_true, Bool.or_false, Bool.true_or, Bool.false_or, *])
/-! comparisons of equal things -/
theorem dep_all {n : Nat} : ∀ {ds : List D}, (∀ d ∈ ds, PyData.canLay0 d = true ∧ PyData.depth d ≤ n) → PyData.canLayAll0 ds = true ∧ PyData.depthAll ds ≤ n
  | [], _ => ⟨by rw [PyData.canLayAll0], by rw [PyData.depthAll]; omega⟩
  | d :: ds, h => by
    have h1 := h d List.mem_cons_self
    have h2 := dep_all fun x hx => h x (List.mem_cons_of_mem _ hx)
    refine ⟨by rw [PyData.canLayAll0, h1.1, h2.1]; rfl, ?_⟩
    rw [PyData.depthAll]
    exact Nat.max_le.mpr ⟨h1.2, h2.2⟩
theorem shaped_list {ds : List D} (h : ∀ d ∈ ds, PyData.canLay0 d = true ∧ PyData.depth d ≤ 8) : SeqAt.shaped (.list ds) = true := by
  have h1 := dep_all h
  unfold SeqAt.shaped
  rw [PyData.canLay0, h1.1, PyData.depth, Bool.true_and, decide_eq_true_eq]
  omega
theorem prD_lay (p : Int × Int) : PyData.canLay0 (prD p) = true ∧ PyData.depth (prD p) ≤ 8 := by
  unfold prD
  constructor
  · simp only [PyData.canLay0, PyData.canLayAll0, Bool.and_self]
  · simp only [PyData.depth, PyData.depthAll]
    decide
theorem gNe_self {d : D} (h : SeqAt.shaped d = true) : gNe d d = some (.vl (.bool false)) := by
  unfold gNe
  rw [h, SeqAt.eqv_refl d (SeqAt.canLay_of_shaped h)]
  rfl
theorem gNe_prs (ps : Sp) : gNe (.list (prs ps)) (.list (prs ps)) = some (.vl (.bool false)) := gNe_self (shaped_list fun d hd => by
  obtain ⟨p, _, rfl⟩ := List.mem_map.mp hd
  exact prD_lay p)
theorem gNe_inz (is : List Int) : gNe (.list (inz is)) (.list (inz is)) = some (.vl (.bool false)) := gNe_self (shaped_list fun d hd => by
  obtain ⟨p, _, rfl⟩ := List.mem_map.mp hd
  exact ⟨by rw [PyData.canLay0], by rw [PyData.depth]; decide⟩)
/-! the comprehensions of the law -/
theorem eqv_int (i j : Int) : PyData.eqv (.int i) (.int j) = decide (i = j) := by
  rw [PyData.eqv]
  by_cases h : i = j
  · rw [h]; simp
  · rw [decide_eq_false h]; simp [h]
theorem gIn_inz (x : Int) (ys : List Int) : gIn false (.int x) (.list (inz ys)) = some (.vl (.bool (decide (x ∈ ys)))) := by
  have h1 : (inz ys).all flatD = true := by
    rw [List.all_eq_true]
    intro d hd
    obtain ⟨p, _, rfl⟩ := List.mem_map.mp hd
    rfl
  have h2 : ((inz ys).any fun y => PyData.eqv y (.int x)) = decide (x ∈ ys) := by
    rw [Bool.eq_iff_iff, List.any_eq_true, decide_eq_true_eq]
    constructor
    · rintro ⟨d, hd, hq⟩
      obtain ⟨y, hy, rfl⟩ := List.mem_map.mp hd
      rw [eqv_int, decide_eq_true_eq] at hq
      exact hq ▸ hy
    · intro hx
      exact ⟨.int x, List.mem_map.mpr ⟨x, hx, rfl⟩, by rw [eqv_int]; exact decide_eq_true rfl⟩
  show (if flatD (.int x) && (inz ys).all flatD then _ else none) = _
  rw [h1]
  show some (ORes.vl (.bool ((inz ys).any fun y => PyData.eqv y (.int x)))) = _
  rw [h2]
section
variable {v0 v1 v2 v3 v4 v5 v6 v7 v8 v9 v10 v11 v12 v13 v14 v15 v16 v17 v18 v19 v20 v21 v22 v23 v24 : Option Sl}
theorem comp_in {xs ys : List Int} (h : xs.length ≤ 1000000) : lcLoop g_law_2 c_law_2 e_law_2 [22] (inz xs) [] [v0, v1, v2, v3, v4, v5, v6, v7, v8, v9, v10, v11, v12, v13, v14, v15, v16, v17, some (.val (.list (inz ys))), v19, v20, v21, none, v23, v24, none, none] =
    some (inz (xs.filter fun t => decide (t ∈ ys)), [v0, v1, v2, v3, v4, v5, v6, v7, v8, v9, v10, v11, v12, v13, v14, v15, v16, v17, some (.val (.list (inz ys))), v19, v20, v21, none, v23, v24, none, none]) :=
  lcLoop_pure (fun t => decide (t ∈ ys)) PyData.int (fun t => by
    refine ⟨[v0, v1, v2, v3, v4, v5, v6, v7, v8, v9, v10, v11, v12, v13, v14, v15, v16, v17, some (.val (.list (inz ys))), v19, v20, v21, some (.val (.int t)), v23, v24, none, none], [v0, v1, v2, v3, v4, v5, v6, v7, v8, v9, v10, v11, v12, v13, v14, v15, v16, v17, some (.val (.list (inz ys))), v19, v20, v21, some (.val (.int t)), v23, v24, none, none], rfl, ?_, fun _ => rfl, fun _ => ⟨.val (.int t), [v0, v1, v2, v3, v4, v5, v6, v7, v8, v9, v10, v11, v12, v13, v14, v15, v16, v17, some (.val (.list (inz ys))), v19, v20, v21, some (.val (.int t)), v23, v24, none, none], [v0, v1, v2, v3, v4, v5, v6, v7, v8, v9, v10, v11, v12, v13, v14, v15, v16, v17, some (.val (.list (inz ys))), v19, v20, v21, some (.val (.int t)), v23, v24, none, none], rfl, rfl, rfl⟩⟩
    unfold c_law_2
    repeat (first | walk_at "ev" | simp only [gIn_inz])) xs [] (by rw [List.length_nil]; omega)
abbrev kys (xs : List Int) : List D := xs.map fun t => .tuple [.int t, .bool true]
theorem comp_key {xs : List Int} (h : xs.length ≤ 1000000) : lcLoop g_law_3 hYes e_law_3 [22] (inz xs) [] [v0, v1, v2, v3, v4, v5, v6, v7, v8, v9, v10, v11, v12, v13, v14, v15, v16, v17, v18, v19, v20, v21, none, v23, v24, none, none] =
    some (kys xs, [v0, v1, v2, v3, v4, v5, v6, v7, v8, v9, v10, v11, v12, v13, v14, v15, v16, v17, v18, v19, v20, v21, none, v23, v24, none, none]) := by
  have := lcLoop_pure (g := g_law_3) (c := hYes) (f := e_law_3) (vs := [22]) (en := PyData.int) (ρ := [v0, v1, v2, v3, v4, v5, v6, v7, v8, v9, v10, v11, v12, v13, v14, v15, v16, v17, v18, v19, v20, v21, none, v23, v24, none, none]) (fun _ => true) (fun t => .tuple [.int t, .bool true]) (fun t => by
    refine ⟨[v0, v1, v2, v3, v4, v5, v6, v7, v8, v9, v10, v11, v12, v13, v14, v15, v16, v17, v18, v19, v20, v21, some (.val (.int t)), v23, v24, none, none], [v0, v1, v2, v3, v4, v5, v6, v7, v8, v9, v10, v11, v12, v13, v14, v15, v16, v17, v18, v19, v20, v21, some (.val (.int t)), v23, v24, none, none], rfl, rfl, (fun h => by cases h), fun _ => ⟨.val (.tuple [.int t, .bool true]), [v0, v1, v2, v3, v4, v5, v6, v7, v8, v9, v10, v11, v12, v13, v14, v15, v16, v17, v18, v19, v20, v21, some (.val (.int t)), v23, v24, none, none], [v0, v1, v2, v3, v4, v5, v6, v7, v8, v9, v10, v11, v12, v13, v14, v15, v16, v17, v18, v19, v20, v21, some (.val (.int t)), v23, v24, none, none], rfl, rfl, rfl⟩⟩) xs [] (by rw [List.length_nil]; omega)
  rw [this, List.filter_eq_self.mpr fun _ _ => rfl, List.nil_append]
theorem comp_sh {ps : Sp} (h : ps.length ≤ 1000000) : lcLoop g_law_5 hYes e_law_5 [25, 26] (prs ps) [] [v0, v1, v2, v3, v4, v5, v6, v7, v8, v9, v10, v11, v12, v13, v14, v15, v16, v17, v18, v19, v20, v21, v22, v23, v24, none, none] =
    some (prs (ps.map sh), [v0, v1, v2, v3, v4, v5, v6, v7, v8, v9, v10, v11, v12, v13, v14, v15, v16, v17, v18, v19, v20, v21, v22, v23, v24, none, none]) := by
  have := lcLoop_pure (g := g_law_5) (c := hYes) (f := e_law_5) (vs := [25, 26]) (en := prD) (ρ := [v0, v1, v2, v3, v4, v5, v6, v7, v8, v9, v10, v11, v12, v13, v14, v15, v16, v17, v18, v19, v20, v21, v22, v23, v24, none, none]) (fun _ => true) (fun p => prD (sh p)) (fun p => by
    obtain ⟨p1, p2⟩ := p
    refine ⟨[v0, v1, v2, v3, v4, v5, v6, v7, v8, v9, v10, v11, v12, v13, v14, v15, v16, v17, v18, v19, v20, v21, v22, v23, v24, some (.val (.int p1)), some (.val (.int p2))], [v0, v1, v2, v3, v4, v5, v6, v7, v8, v9, v10, v11, v12, v13, v14, v15, v16, v17, v18, v19, v20, v21, v22, v23, v24, some (.val (.int p1)), some (.val (.int p2))], rfl, rfl, (fun h => by cases h), fun _ => ⟨.val (prD (p1, p2 + 1)), [v0, v1, v2, v3, v4, v5, v6, v7, v8, v9, v10, v11, v12, v13, v14, v15, v16, v17, v18, v19, v20, v21, v22, v23, v24, some (.val (.int p1)), some (.val (.int p2))], [v0, v1, v2, v3, v4, v5, v6, v7, v8, v9, v10, v11, v12, v13, v14, v15, v16, v17, v18, v19, v20, v21, v22, v23, v24, some (.val (.int p1)), some (.val (.int p2))], rfl, rfl, rfl⟩⟩) ps [] (by rw [List.length_nil]; omega)
  rw [this, List.filter_eq_self.mpr fun _ _ => rfl, List.nil_append, prs, List.map_map]
  rfl
theorem comp_row {ps : Sp} {n t : Int} (h : ps.length ≤ 1000000) : lcLoop g_law_6 c_law_6 e_law_6 [25, 26] (prs ps) [] [v0, v1, v2, v3, v4, v5, v6, v7, v8, v9, v10, v11, v12, v13, v14, v15, v16, v17, v18, v19, v20, some (.val (.int n)), some (.val (.int t)), v23, v24, none, none] =
    some (inz ((ps.filter fun p => decide (n ≤ p.2 - mx p.1 t + 1)).map fun p => mx p.1 t), [v0, v1, v2, v3, v4, v5, v6, v7, v8, v9, v10, v11, v12, v13, v14, v15, v16, v17, v18, v19, v20, some (.val (.int n)), some (.val (.int t)), v23, v24, none, none]) := by
  have := lcLoop_pure (g := g_law_6) (c := c_law_6) (f := e_law_6) (vs := [25, 26]) (en := prD) (ρ := [v0, v1, v2, v3, v4, v5, v6, v7, v8, v9, v10, v11, v12, v13, v14, v15, v16, v17, v18, v19, v20, some (.val (.int n)), some (.val (.int t)), v23, v24, none, none]) (fun p => decide (n ≤ p.2 - mx p.1 t + 1)) (fun p => .int (mx p.1 t)) (fun p => by
    obtain ⟨p1, p2⟩ := p
    refine ⟨[v0, v1, v2, v3, v4, v5, v6, v7, v8, v9, v10, v11, v12, v13, v14, v15, v16, v17, v18, v19, v20, some (.val (.int n)), some (.val (.int t)), v23, v24, some (.val (.int p1)), some (.val (.int p2))], [v0, v1, v2, v3, v4, v5, v6, v7, v8, v9, v10, v11, v12, v13, v14, v15, v16, v17, v18, v19, v20, some (.val (.int n)), some (.val (.int t)), v23, v24, some (.val (.int p1)), some (.val (.int p2))], rfl, rfl, fun _ => rfl, fun _ => ⟨.val (.int (mx p1 t)), [v0, v1, v2, v3, v4, v5, v6, v7, v8, v9, v10, v11, v12, v13, v14, v15, v16, v17, v18, v19, v20, some (.val (.int n)), some (.val (.int t)), v23, v24, some (.val (.int p1)), some (.val (.int p2))], [v0, v1, v2, v3, v4, v5, v6, v7, v8, v9, v10, v11, v12, v13, v14, v15, v16, v17, v18, v19, v20, some (.val (.int n)), some (.val (.int t)), v23, v24, some (.val (.int p1)), some (.val (.int p2))], rfl, rfl, rfl⟩⟩) ps [] (by rw [List.length_nil]; omega)
  rw [this, List.nil_append, inz, List.map_map]
  rfl
end
theorem keys_kys (xs : List Int) : gDict [.list (kys xs)] = some (.dc ((dd [] xs).map fun t => (Sum.inl t, PyData.bool true))) := by
  have h : ∀ xs : List Int, pairsD (kys xs) = some (xs.map fun t => (Sum.inl t, PyData.bool true)) := by
    intro xs
    induction xs with
    | nil => rfl
    | cons x xs ih =>
      show ((keyOf (.int x)).bind fun kk => (pairsD (kys xs)).bind fun is => some ((kk, PyData.bool true) :: is)) = _
      rw [ih]
      rfl
  show (pairsD (kys xs)).bind _ = _
  rw [h]
  show some (ORes.dc _) = _
  have := merge_dd (.bool true) xs []
  rw [List.map_nil] at this
  rw [this]
theorem sorted_keys (ks : List Int) : gSortedB [.dict ((ks.map fun t => ((Sum.inl t : Key), PyData.bool true)).map fun p => (kD p.1, p.2))] = some (.ls (inz (sortI ks))) := by
  have h : ∀ ks : List Int, keysI ((ks.map fun t => ((Sum.inl t : Key), PyData.bool true)).map fun p => (kD p.1, p.2)) = some ks := by
    intro ks
    induction ks with
    | nil => rfl
    | cons x xs ih =>
      show ((keysI _).bind fun is => some (x :: is)) = _
      rw [ih]
      rfl
  show (keysI _).bind _ = _
  rw [h]
  rfl
end K80

namespace K80
open PySem PySem.Spec PyProof.Rows L2 DL

local macro_rules | `(tactic| walk_at "ev") => `(tactic| simp only [dVar_ap, dC_ap, dOp_ap, dNeg_ap, dTest_ap, dTruth_ap, hAnd_ap, hOr_ap, hNot_ap, hYes_ap, dAnd_ap, dOr_ap, dNot_ap, dIf_ap, dChain_ap, aNil_ap, aCons_ap, aVal_ap, aLend_ap, kNil_ap, kCons_ap, dCB_ap, dTup_ap, dLst_ap, dSl_ap, oNone_ap, oSome_ap, dMut_ap, dListScr_ap, dRgL_ap, twoI_ap, dLc_ap, dCallN_ap, dSkip_ap, dSeq_ap, dAsg_ap, dAsgG_ap, dExpr_ap, dRet_ap, dRetN_ap, dBrk_ap, dCnt_ap, dIfS_ap, dAug_ap, dSetI_ap, dFor_ap, dPar2_ap, dPar3_ap, iAny_ap, iRng1_ap, iRng2_ap, iZip_ap, gN_ap, gT_ap, gsNil_ap, gsCons_ap, forS_ap, retR_val, retR_new, retR_at, outs_nil, outs_val, List.map_cons, List.map_nil, List.cons_append, List.nil_append, List.reduceReplicate, Nat.reduceSub, Nat.reduceAdd, List.tail_cons, List.isEmpty_cons, List.isEmpty_nil, Bool.not_true, Bool.not_false,
  storeR_val, storeR_new, storeR_at, DL.settle_val, DL.settle_new, DL.settle_at, stab_val, stab_new, stab_at, dat_val, dat_new, dat_at, data_val, data_own, data_dic, keepS_val, keepS_new, keepS_at, dats_nil, dats_cons, vals_nil, vals_cons, ores_vl, ores_ls, ores_tp, ores_dc, argSl_nil, argSl_val, argSl_at, lentAt_nil, lentAt_val, lentAt_at, putBack_nil, putBack_val, tail_cons,
  gAdd_int, gSub_int, gLt_int, gLe_int, gGt_int, gGe_int, gEq_int, gNe_int, gIx_list, gIx_tuple, gLen_list, gLen_tuple, gMax2_int, gMin2_int, gInt_int, gInt_bool, gAbs_int, gList_list, gTuple_list, truD_list, truD_tuple, truD_bool, gRev_nil, gPopAt_zero, atI_zero, atI_one, atI_two, atI_last1, forL_nil,
  Option.bind_some, Option.bind_none, Option.join_some, List.getElem?_cons_zero, List.getElem?_cons_succ, List.set_cons_zero, List.set_cons_succ, List.length_cons, List.length_nil, ↓reduceIte, Bool.false_eq_true, gApp_if, aLast_ap, outs_ownA, outSl_own, outSl_scr, outs_scr, putBack_at, nodup_one, List.head?_cons, wipeE_nil, wipeE_cons, restE_nil, restE_cons, gSortedB_pairs, gSortedB_tuple, gSum_ints, gAll_bls, gAny_bls, Nat.reduceLeDiff, Nat.reduceLT, Int.reduceNeg, Nat.reduceMul, ne_snoc, set_snoc, DL.ixN_last, List.length_append, List.length_singleton, List.nodup_nil, true_and, and_true, decide_true, decide_false, Bool.and_true, Bool.and_false, Bool.true_and, Bool.false_and, Bool.or_true, Bool.or_false, Bool.true_or, Bool.false_or])
local macro_rules | `(tactic| walk_at "evs") => `(tactic| simp only [dVar_ap, dC_ap, dOp_ap, dNeg_ap, dTest_ap, dTruth_ap, hAnd_ap, hOr_ap, hNot_ap, hYes_ap, dAnd_ap, dOr_ap, dNot_ap, dIf_ap, dChain_ap, aNil_ap, aCons_ap, aVal_ap, aLend_ap, kNil_ap, kCons_ap, dCB_ap, dTup_ap, dLst_ap, dSl_ap, oNone_ap, oSome_ap, dMut_ap, dListScr_ap, dRgL_ap, twoI_ap, dLc_ap, dCallN_ap, dSkip_ap, dSeq_ap, dAsg_ap, dAsgG_ap, dExpr_ap, dRet_ap, dRetN_ap, dBrk_ap, dCnt_ap, dIfS_ap, dAug_ap, dSetI_ap, dFor_ap, dPar2_ap, dPar3_ap, iAny_ap, iRng1_ap, iRng2_ap, iZip_ap, gN_ap, gT_ap, gsNil_ap, gsCons_ap, forS_ap, retR_val, retR_new, retR_at, outs_nil, outs_val, List.map_cons, List.map_nil, List.cons_append, List.nil_append, List.reduceReplicate, Nat.reduceSub, Nat.reduceAdd, List.tail_cons, List.isEmpty_cons, List.isEmpty_nil, Bool.not_true, Bool.not_false,
  storeR_val, storeR_new, storeR_at, DL.settle_val, DL.settle_new, DL.settle_at, stab_val, stab_new, stab_at, dat_val, dat_new, dat_at, data_val, data_own, data_dic, keepS_val, keepS_new, keepS_at, dats_nil, dats_cons, vals_nil, vals_cons, ores_vl, ores_ls, ores_tp, ores_dc, argSl_nil, argSl_val, argSl_at, lentAt_nil, lentAt_val, lentAt_at, putBack_nil, putBack_val, tail_cons,
  gAdd_int, gSub_int, gLt_int, gLe_int, gGt_int, gGe_int, gEq_int, gNe_int, gIx_list, gIx_tuple, gLen_list, gLen_tuple, gMax2_int, gMin2_int, gInt_int, gInt_bool, gAbs_int, gList_list, gTuple_list, truD_list, truD_tuple, truD_bool, gRev_nil, gPopAt_zero, atI_zero, atI_one, atI_two, atI_last1, forL_nil,
  Option.bind_some, Option.bind_none, Option.join_some, List.getElem?_cons_zero, List.getElem?_cons_succ, List.set_cons_zero, List.set_cons_succ, List.length_cons, List.length_nil, ↓reduceIte, Bool.false_eq_true, gApp_if, aLast_ap, outs_ownA, outSl_own, outSl_scr, outs_scr, putBack_at, nodup_one, List.head?_cons, wipeE_nil, wipeE_cons, restE_nil, restE_cons, gSortedB_pairs, gSortedB_tuple, gSum_ints, gAll_bls, gAny_bls, Nat.reduceLeDiff, Nat.reduceLT, Int.reduceNeg, Nat.reduceMul, ne_snoc, set_snoc, DL.ixN_last, List.length_append, List.length_singleton, List.nodup_nil, true_and, and_true, decide_true, decide_false, Bool.and_true, Bool.and_false, Bool.true_and, Bool.false_and, Bool.or_true, Bool.or_false, Bool.true_or, Bool.false_or, *])
/-- what the law draws -/
structure Dn (a b c : Sp) (s e : Int) : Prop where
  na : Nm a
  nb : Nm b
  nc : Nm c
  la : a.length ≤ 4
  lb : b.length ≤ 4
  lc : c.length ≤ 4
  ba : ∀ p ∈ a, 0 ≤ p.1 ∧ p.2 < 100
  bb : ∀ p ∈ b, 0 ≤ p.1 ∧ p.2 < 100
  bc : ∀ p ∈ c, 0 ≤ p.1 ∧ p.2 < 100
  s0 : 0 ≤ s
  s1 : s < 10
  e0 : 30 ≤ e
  e1 : e < 70
section
variable {v0 v1 v2 v3 v4 v5 v6 v7 v8 v9 v10 v11 v12 v13 v14 v15 v16 v17 v18 v19 v20 v21 v22 v23 v24 : Option Sl}
theorem tl7 {is : List Int} : ∃ is' a b c, t_law_7 [v0, some (.own false (inz is)), v2, v3, v4, v5, v6, v7, v8, v9, v10, v11, v12, v13, v14, v15, v16, v17, v18, v19, v20, v21, v22, v23, v24, none, none] = some (.nx, [v0, some (.own false (inz is')), v2, v3, v4, v5, v6, v7, v8, v9, some (.own false (prs a)), some (.own false (prs b)), some (.own false (prs c)), v13, v14, v15, v16, v17, v18, v19, v20, v21, v22, v23, v24, none, none]) ∧ ∀ s e, 0 ≤ s → s < 10 → 30 ≤ e → e < 70 → Dn a b c s e := by
  obtain ⟨is1, a, e1, la, na, ba⟩ := at_spells (is := is)
  obtain ⟨is2, b, e2, lb, nb, bb⟩ := at_spells (is := is1)
  obtain ⟨is3, c, e3, lc, nc, bc⟩ := at_spells (is := is2)
  refine ⟨is3, a, b, c, ?_, fun s e h1 h2 h3 h4 => ⟨na, nb, nc, la, lb, lc, ba, bb, bc, h1, h2, h3, h4⟩⟩
  unfold t_law_7
  repeat (first | walk_at "ev" | simp only [e1, e2, e3])
theorem tl8 {is : List Int} {a b c : Sp} : ∃ is' s e, t_law_8 [v0, some (.own false (inz is)), v2, v3, v4, v5, v6, v7, v8, v9, some (.own false (prs a)), some (.own false (prs b)), some (.own false (prs c)), v13, v14, v15, v16, v17, v18, v19, v20, v21, v22, v23, v24, none, none] = some (.nx, [v0, some (.own false (inz is')), v2, v3, v4, v5, v6, v7, v8, v9, some (.own false (prs a)), some (.own false (prs b)), some (.own false (prs c)), some (.val (.int s)), some (.val (.int e)), v15, v16, v17, v18, v19, v20, v21, v22, v23, v24, none, none]) ∧ 0 ≤ s ∧ s < 10 ∧ 30 ≤ e ∧ e < 70 := by
  obtain ⟨s, is1, e1, s0, s1⟩ := at_take (is := is) (l := 10) (by decide)
  obtain ⟨x, is2, e2, x0, x1⟩ := at_take (is := is1) (l := 40) (by decide)
  refine ⟨is2, s, 30 + x, ?_, s0, s1, by omega, by omega⟩
  unfold t_law_8
  repeat (first | walk_at "ev" | simp only [e1, e2])
theorem tl9 {a b c : Sp} {s e : Int} (h : Dn a b c s e) : t_law_9 [v0, v1, v2, v3, v4, v5, v6, v7, v8, v9, some (.own false (prs a)), some (.own false (prs b)), some (.own false (prs c)), some (.val (.int s)), some (.val (.int e)), v15, v16, v17, v18, v19, v20, v21, v22, v23, v24, none, none] = some (.nx, [v0, v1, v2, v3, v4, v5, v6, v7, v8, v9, some (.val (.list (prs (a)))), some (.val (.list (prs (b)))), some (.own false (prs c)), some (.val (.int s)), some (.val (.int e)), some (.own false (prs (restF a s e))), some (.own false (prs (restF b s e))), v17, v18, v19, v20, v21, v22, v23, v24, none, none]) := by
  have e1 := at_rest (ps := a) (s := s) (e := e) (by have := h.la; omega)
  have e2 := at_rest (ps := b) (s := s) (e := e) (by have := h.lb; omega)
  unfold t_law_9
  repeat (first | walk_at "ev" | simp only [e1, e2])
theorem tl10 {a b c : Sp} {s e : Int} (h : Dn a b c s e) : t_law_10 [v0, v1, v2, v3, v4, v5, v6, v7, v8, v9, some (.val (.list (prs (a)))), some (.val (.list (prs (b)))), some (.own false (prs c)), some (.val (.int s)), some (.val (.int e)), some (.own false (prs (restF a s e))), some (.own false (prs (restF b s e))), v17, v18, v19, v20, v21, v22, v23, v24, none, none] = some (.nx, [v0, v1, v2, some (.val (.list (prs (bothF (restF a s e) (restF b s e))))), v4, v5, v6, v7, v8, v9, some (.val (.list (prs (a)))), some (.val (.list (prs (b)))), some (.own false (prs c)), some (.val (.int s)), some (.val (.int e)), some (.val (.list (prs (restF a s e)))), some (.val (.list (prs (restF b s e)))), v17, v18, v19, v20, v21, v22, v23, v24, none, none]) := by
  have l1 := rest_len a s e
  have l2 := rest_len b s e
  have l3 := both_len a b
  have l4 := either_len a b
  have l5 := both_len (restF a s e) (restF b s e)
  have hla := h.la
  have hlb := h.lb
  have n1 := (rest_spec h.na.sr s e).1
  have n2 := (rest_spec h.nb.sr s e).1
  have n3 := (both_spec h.na h.nb).1
  have n4 := (either_spec h.na h.nb).1
  have n5 := (both_spec n1 n2).1
  have e1 := at_both (a := a) (b := b) (by omega)
  have e2 := at_either (a := a) (b := b) (by omega)
  have e3 := at_both (a := restF a s e) (b := restF b s e) (by omega)
  have r1 := at_right n1 (by omega)
  have r3 := at_right n3 (by omega)
  have r4 := at_right n4 (by omega)
  have r5 := at_right n5 (by omega)
  unfold t_law_10
  repeat (first | walk_at "ev" | simp only [forL_cons, g_law_1, l_law_1, e1, e2, e3, r1, r3, r4, r5])
theorem tl11 {a b c : Sp} {s e : Int} (h : Dn a b c s e) : t_law_11 [v0, v1, v2, v3, v4, v5, v6, v7, v8, v9, some (.val (.list (prs (a)))), some (.val (.list (prs (b)))), some (.own false (prs c)), some (.val (.int s)), some (.val (.int e)), some (.val (.list (prs (restF a s e)))), some (.val (.list (prs (restF b s e)))), v17, v18, v19, v20, v21, v22, v23, v24, none, none] = some (.nx, [v0, v1, v2, v3, v4, v5, v6, v7, v8, v9, some (.val (.list (prs (a)))), some (.val (.list (prs (b)))), some (.own false (prs c)), some (.val (.int s)), some (.val (.int e)), some (.val (.list (prs (restF a s e)))), some (.val (.list (prs (restF b s e)))), some (.val (.list (inz (tk a)))), some (.val (.list (inz (tk b)))), v19, v20, v21, v22, v23, v24, none, none]) := by
  have e1 := at_ticks (ps := a) ⟨by have := h.la; omega, fun p hp => by have := h.ba p hp; omega⟩ h.na.val
  have e2 := at_ticks (ps := b) ⟨by have := h.lb; omega, fun p hp => by have := h.bb p hp; omega⟩ h.nb.val
  unfold t_law_11
  repeat (first | walk_at "ev" | simp only [e1, e2])
theorem tl12n {a b c : Sp} {s e : Int} (h : Dn a b c s e) {t22 : Int} : t_law_12 [v0, v1, v2, v3, v4, v5, v6, v7, v8, v9, some (.val (.list (prs (a)))), some (.val (.list (prs (b)))), some (.own false (prs c)), some (.val (.int s)), some (.val (.int e)), some (.val (.list (prs (restF a s e)))), some (.val (.list (prs (restF b s e)))), some (.val (.list (inz (tk a)))), some (.val (.list (inz (tk b)))), v19, v20, v21, none, v23, v24, none, none] = some (.nx, [v0, v1, v2, v3, v4, v5, v6, v7, v8, v9, some (.val (.list (prs (a)))), some (.val (.list (prs (b)))), some (.own false (prs c)), some (.val (.int s)), some (.val (.int e)), some (.val (.list (prs (restF a s e)))), some (.val (.list (prs (restF b s e)))), some (.val (.list (inz (tk a)))), some (.val (.list (inz (tk b)))), v19, v20, v21, none, v23, v24, none, none]) := by
  have sa : ∀ t, Inn a t → 0 ≤ t ∧ t < 100 := fun t ⟨p, hp, h1, h2⟩ => by have := h.ba p hp; omega
  have sb : ∀ t, Inn b t → 0 ≤ t ∧ t < 100 := fun t ⟨p, hp, h1, h2⟩ => by have := h.bb p hp; omega
  
  have hla := h.la
  have hlb := h.lb
  have l3 := both_len a b
  have l4 := either_len a b
  have b1 := both_spec h.na h.nb
  have b2 := either_spec h.na h.nb
  have e1 := at_both (a := a) (b := b) (by omega)
  have e2 := at_either (a := a) (b := b) (by omega)
  have sm : ∀ {q : Sp}, Nm q → q.length ≤ 8 → (∀ t, Inn q t → 0 ≤ t ∧ t < 100) → Sm q := fun {q} hn hl hq => ⟨by omega, fun p hp => by
    have hv := hn.val p hp
    have h1 := hq p.1 ⟨p, hp, Int.le_refl _, hv⟩
    have h2 := hq p.2 ⟨p, hp, hv, Int.le_refl _⟩
    omega⟩
  have s1 := sm b1.1 (by omega) fun t ht => sa t ((b1.2 t).mp ht).1
  have s2 := sm b2.1 (by omega) fun t ht => ((b2.2 t).mp ht).elim (sa t) (sb t)
  have t1 := at_ticks s1 b1.1.val
  have t2 := at_ticks s2 b2.1.val
  rw [tk_both h.na h.nb] at t1
  rw [tk_either h.na h.nb] at t2
  have m1 := tk_len a fun p hp => by have := h.ba p hp; omega
  have m2 := tk_len b fun p hp => by have := h.bb p hp; omega
  have g1 : gAdd (.list (inz (tk a))) (.list (inz (tk b))) = some (.ls (inz (tk a ++ tk b))) := by
    rw [gAdd_list (by rw [inz_len, inz_len]; omega), ← List.map_append]
  have g2 := keys_kys (tk a ++ tk b)
  unfold t_law_12
  repeat (first | walk_at "ev" | rw [comp_in (by omega)] | rw [comp_key (by rw [List.length_append]; omega)] | simp only [e1, e2, t1, t2, g1, g2, gNe_inz] | rw [sorted_keys])
theorem tl12i {a b c : Sp} {s e : Int} (h : Dn a b c s e) {t22 : Int} : t_law_12 [v0, v1, v2, v3, v4, v5, v6, v7, v8, v9, some (.val (.list (prs (a)))), some (.val (.list (prs (b)))), some (.own false (prs c)), some (.val (.int s)), some (.val (.int e)), some (.val (.list (prs (restF a s e)))), some (.val (.list (prs (restF b s e)))), some (.val (.list (inz (tk a)))), some (.val (.list (inz (tk b)))), v19, v20, v21, some (.val (.int t22)), v23, v24, none, none] = some (.nx, [v0, v1, v2, v3, v4, v5, v6, v7, v8, v9, some (.val (.list (prs (a)))), some (.val (.list (prs (b)))), some (.own false (prs c)), some (.val (.int s)), some (.val (.int e)), some (.val (.list (prs (restF a s e)))), some (.val (.list (prs (restF b s e)))), some (.val (.list (inz (tk a)))), some (.val (.list (inz (tk b)))), v19, v20, v21, some (.val (.int t22)), v23, v24, none, none]) := by
  have sa : ∀ t, Inn a t → 0 ≤ t ∧ t < 100 := fun t ⟨p, hp, h1, h2⟩ => by have := h.ba p hp; omega
  have sb : ∀ t, Inn b t → 0 ≤ t ∧ t < 100 := fun t ⟨p, hp, h1, h2⟩ => by have := h.bb p hp; omega
  
  have hla := h.la
  have hlb := h.lb
  have l3 := both_len a b
  have l4 := either_len a b
  have b1 := both_spec h.na h.nb
  have b2 := either_spec h.na h.nb
  have e1 := at_both (a := a) (b := b) (by omega)
  have e2 := at_either (a := a) (b := b) (by omega)
  have sm : ∀ {q : Sp}, Nm q → q.length ≤ 8 → (∀ t, Inn q t → 0 ≤ t ∧ t < 100) → Sm q := fun {q} hn hl hq => ⟨by omega, fun p hp => by
    have hv := hn.val p hp
    have h1 := hq p.1 ⟨p, hp, Int.le_refl _, hv⟩
    have h2 := hq p.2 ⟨p, hp, hv, Int.le_refl _⟩
    omega⟩
  have s1 := sm b1.1 (by omega) fun t ht => sa t ((b1.2 t).mp ht).1
  have s2 := sm b2.1 (by omega) fun t ht => ((b2.2 t).mp ht).elim (sa t) (sb t)
  have t1 := at_ticks s1 b1.1.val
  have t2 := at_ticks s2 b2.1.val
  rw [tk_both h.na h.nb] at t1
  rw [tk_either h.na h.nb] at t2
  have m1 := tk_len a fun p hp => by have := h.ba p hp; omega
  have m2 := tk_len b fun p hp => by have := h.bb p hp; omega
  have g1 : gAdd (.list (inz (tk a))) (.list (inz (tk b))) = some (.ls (inz (tk a ++ tk b))) := by
    rw [gAdd_list (by rw [inz_len, inz_len]; omega), ← List.map_append]
  have g2 := keys_kys (tk a ++ tk b)
  unfold t_law_12
  repeat (first | walk_at "ev" | rw [comp_in (by omega)] | rw [comp_key (by rw [List.length_append]; omega)] | simp only [e1, e2, t1, t2, g1, g2, gNe_inz] | rw [sorted_keys])
theorem tl13 {a b c : Sp} {s e : Int} (h : Dn a b c s e) : t_law_13 [v0, v1, v2, v3, v4, v5, v6, v7, v8, v9, some (.val (.list (prs (a)))), some (.val (.list (prs (b)))), some (.own false (prs c)), some (.val (.int s)), some (.val (.int e)), some (.val (.list (prs (restF a s e)))), some (.val (.list (prs (restF b s e)))), some (.val (.list (inz (tk a)))), some (.val (.list (inz (tk b)))), v19, v20, v21, v22, v23, v24, none, none] = some (.nx, [v0, v1, v2, v3, some (.own false (prs [(s, e)])), v5, v6, v7, v8, v9, some (.val (.list (prs (a)))), some (.val (.list (prs (b)))), some (.own false (prs c)), some (.val (.int s)), some (.val (.int e)), some (.val (.list (prs (restF a s e)))), some (.val (.list (prs (restF b s e)))), some (.val (.list (inz (tk a)))), some (.val (.list (inz (tk b)))), v19, v20, v21, v22, v23, v24, none, none]) := by
  unfold t_law_13
  repeat (first | walk_at "ev" | rfl)
theorem tl14 {a b c : Sp} {s e : Int} (h : Dn a b c s e) : t_law_14 [v0, v1, v2, v3, some (.own false (prs [(s, e)])), v5, v6, v7, v8, v9, some (.val (.list (prs (a)))), some (.val (.list (prs (b)))), some (.own false (prs c)), some (.val (.int s)), some (.val (.int e)), some (.val (.list (prs (restF a s e)))), some (.val (.list (prs (restF b s e)))), some (.val (.list (inz (tk a)))), some (.val (.list (inz (tk b)))), v19, v20, v21, v22, v23, v24, none, none] = some (.nx, [v0, v1, v2, v3, some (.val (.list (prs ([(s, e)])))), v5, v6, v7, v8, v9, some (.val (.list (prs (a)))), some (.val (.list (prs (b)))), some (.own false (prs c)), some (.val (.int s)), some (.val (.int e)), some (.val (.list (prs (restF a s e)))), some (.val (.list (prs (restF b s e)))), some (.val (.list (inz (tk a)))), some (.val (.list (inz (tk b)))), v19, v20, v21, v22, v23, v24, none, none]) := by
  have hla := h.la
  have hlb := h.lb
  have hlc := h.lc
  have na := h.na
  have nb := h.nb
  have nc := h.nc
  have nS : Nm [(s, e)] := ⟨by have := h.s1; have := h.e0; show s ≤ e; omega, fun _ q => by simp at q, trivial⟩
  have iS : ∀ t, Inn [(s, e)] t ↔ s ≤ t ∧ t ≤ e := fun t => by rw [inn_cons]; exact ⟨fun x => x.elim id fun y => absurd y (fun z => inn_nil.mp z), .inl⟩
  have R1 := rest_spec na.sr s e
  have R2 := rest_spec nb.sr s e
  have B1 := both_spec na nb
  have B2 := either_spec na nb
  have l1 := rest_len a s e
  have l2 := rest_len b s e
  have l3 := both_len a b
  have l4 := either_len a b
  
  obtain ⟨S, hS⟩ : ∃ S : Sp, S = [(s, e)] := ⟨_, rfl⟩
  rw [← hS] at nS iS ⊢
  have lS : S.length = 1 := by rw [hS]; rfl
  have l5 := both_len (restF a s e) (restF b s e)
  have l6 := either_len (restF a s e) (restF b s e)
  have l7 := both_len a S
  have RB := rest_spec B1.1.sr s e
  have RE := rest_spec B2.1.sr s e
  have EO := either_spec R1.1 R2.1
  have BO := both_spec R1.1 R2.1
  have RO := rest_spec R1.1.sr s e
  have BS := both_spec na nS
  have q1 : restF (bothF a b) s e = eitherF (restF a s e) (restF b s e) := nm_ext RB.1 EO.1 fun t => by
    rw [RB.2, EO.2, R1.2, R2.2, B1.2]
    constructor
    · rintro ⟨x, y, z⟩
      by_cases q : Inn a t
      · exact .inr ⟨x, y, fun r => z ⟨q, r⟩⟩
      · exact .inl ⟨x, y, q⟩
    · rintro (⟨x, y, z⟩ | ⟨x, y, z⟩)
      · exact ⟨x, y, fun r => z r.1⟩
      · exact ⟨x, y, fun r => z r.2⟩
  have q2 : restF (eitherF a b) s e = bothF (restF a s e) (restF b s e) := nm_ext RE.1 BO.1 fun t => by
    rw [RE.2, BO.2, R1.2, R2.2, B2.2]
    constructor
    · rintro ⟨x, y, z⟩
      exact ⟨⟨x, y, fun r => z (.inl r)⟩, ⟨x, y, fun r => z (.inr r)⟩⟩
    · rintro ⟨⟨x, y, z⟩, ⟨_, _, z'⟩⟩
      exact ⟨x, y, fun r => r.elim z z'⟩
  have q3 : restF (restF a s e) s e = bothF a S := nm_ext RO.1 BS.1 fun t => by
    rw [RO.2, BS.2, R1.2, iS]
    constructor
    · rintro ⟨x, y, z⟩
      refine ⟨Classical.byContradiction fun q => z ⟨x, y, q⟩, x, y⟩
    · rintro ⟨x, y, z⟩
      exact ⟨y, z, fun r => r.2.2 x⟩
  have e1 := at_both (a := a) (b := b) (by omega)
  have e2 := at_either (a := a) (b := b) (by omega)
  have e3 := at_rest (ps := bothF a b) (s := s) (e := e) (by omega)
  have e4 := at_rest (ps := eitherF a b) (s := s) (e := e) (by omega)
  have e5 := at_rest (ps := restF a s e) (s := s) (e := e) (by omega)
  have e6 := at_either (a := restF a s e) (b := restF b s e) (by omega)
  have e7 := at_both (a := restF a s e) (b := restF b s e) (by omega)
  have e8 := at_both (a := a) (b := S) (by omega)
  rw [q1] at e3
  rw [q2] at e4
  rw [q3] at e5
  unfold t_law_14
  repeat (first | walk_at "ev" | simp only [e1, e2, e3, e4, e5, e6, e7, e8, gNe_prs])
theorem tl15 {a b c : Sp} {s e : Int} (h : Dn a b c s e) : t_law_15 [v0, v1, v2, v3, some (.val (.list (prs ([(s, e)])))), v5, v6, v7, v8, v9, some (.val (.list (prs (a)))), some (.val (.list (prs (b)))), some (.own false (prs c)), some (.val (.int s)), some (.val (.int e)), some (.val (.list (prs (restF a s e)))), some (.val (.list (prs (restF b s e)))), some (.val (.list (inz (tk a)))), some (.val (.list (inz (tk b)))), v19, v20, v21, v22, v23, v24, none, none] = some (.nx, [v0, v1, v2, v3, some (.val (.list (prs ([(s, e)])))), v5, v6, v7, v8, v9, some (.val (.list (prs (a)))), some (.val (.list (prs (b)))), some (.val (.list (prs (c)))), some (.val (.int s)), some (.val (.int e)), some (.val (.list (prs (restF a s e)))), some (.val (.list (prs (restF b s e)))), some (.val (.list (inz (tk a)))), some (.val (.list (inz (tk b)))), v19, v20, v21, v22, v23, v24, none, none]) := by
  have hla := h.la
  have hlb := h.lb
  have hlc := h.lc
  have na := h.na
  have nb := h.nb
  have nc := h.nc
  have nS : Nm [(s, e)] := ⟨by have := h.s1; have := h.e0; show s ≤ e; omega, fun _ q => by simp at q, trivial⟩
  have iS : ∀ t, Inn [(s, e)] t ↔ s ≤ t ∧ t ≤ e := fun t => by rw [inn_cons]; exact ⟨fun x => x.elim id fun y => absurd y (fun z => inn_nil.mp z), .inl⟩
  have R1 := rest_spec na.sr s e
  have R2 := rest_spec nb.sr s e
  have B1 := both_spec na nb
  have B2 := either_spec na nb
  have l1 := rest_len a s e
  have l2 := rest_len b s e
  have l3 := both_len a b
  have l4 := either_len a b
  
  have BC := either_spec nb nc
  have BC' := both_spec nb nc
  have AC := both_spec na nc
  have AC' := either_spec na nc
  have X1 := both_spec na BC.1
  have X2 := either_spec B1.1 AC.1
  have X3 := either_spec na BC'.1
  have X4 := both_spec B2.1 AC'.1
  have l5 := either_len b c
  have l6 := both_len b c
  have l7 := both_len a c
  have l8 := either_len a c
  have q1 : bothF a (eitherF b c) = eitherF (bothF a b) (bothF a c) := nm_ext X1.1 X2.1 fun t => by
    rw [X1.2, X2.2, BC.2, B1.2, AC.2]
    exact and_or_left
  have q2 : eitherF a (bothF b c) = bothF (eitherF a b) (eitherF a c) := nm_ext X3.1 X4.1 fun t => by
    rw [X3.2, X4.2, BC'.2, B2.2, AC'.2]
    exact or_and_left
  have e1 := at_both (a := a) (b := b) (by omega)
  have e2 := at_either (a := a) (b := b) (by omega)
  have e3 := at_both (a := a) (b := c) (by omega)
  have e4 := at_either (a := a) (b := c) (by omega)
  have e5 := at_both (a := b) (b := c) (by omega)
  have e6 := at_either (a := b) (b := c) (by omega)
  have e7 := at_both (a := a) (b := eitherF b c) (by omega)
  have e8 := at_either (a := bothF a b) (b := bothF a c) (by omega)
  have e9 := at_either (a := a) (b := bothF b c) (by omega)
  have e10 := at_both (a := eitherF a b) (b := eitherF a c) (by omega)
  rw [q1] at e7
  rw [q2] at e9
  unfold t_law_15
  repeat (first | walk_at "ev" | simp only [e1, e2, e3, e4, e5, e6, e7, e8, e9, e10, gNe_prs])
theorem tl16 {a b c : Sp} {s e : Int} (h : Dn a b c s e) : t_law_16 [v0, v1, v2, v3, some (.val (.list (prs ([(s, e)])))), v5, v6, v7, v8, v9, some (.val (.list (prs (a)))), some (.val (.list (prs (b)))), some (.val (.list (prs (c)))), some (.val (.int s)), some (.val (.int e)), some (.val (.list (prs (restF a s e)))), some (.val (.list (prs (restF b s e)))), some (.val (.list (inz (tk a)))), some (.val (.list (inz (tk b)))), v19, v20, v21, v22, v23, v24, none, none] = some (.nx, [v0, v1, v2, v3, some (.val (.list (prs ([(s, e)])))), v5, v6, v7, v8, v9, some (.val (.list (prs (a)))), some (.val (.list (prs (b)))), some (.val (.list (prs (c)))), some (.val (.int s)), some (.val (.int e)), some (.val (.list (prs (restF a s e)))), some (.val (.list (prs (restF b s e)))), some (.val (.list (inz (tk a)))), some (.val (.list (inz (tk b)))), v19, v20, v21, v22, v23, v24, none, none]) := by
  have hla := h.la
  have hlb := h.lb
  have hlc := h.lc
  have na := h.na
  have nb := h.nb
  have nc := h.nc
  have nS : Nm [(s, e)] := ⟨by have := h.s1; have := h.e0; show s ≤ e; omega, fun _ q => by simp at q, trivial⟩
  have iS : ∀ t, Inn [(s, e)] t ↔ s ≤ t ∧ t ≤ e := fun t => by rw [inn_cons]; exact ⟨fun x => x.elim id fun y => absurd y (fun z => inn_nil.mp z), .inl⟩
  have R1 := rest_spec na.sr s e
  have R2 := rest_spec nb.sr s e
  have B1 := both_spec na nb
  have B2 := either_spec na nb
  have l1 := rest_len a s e
  have l2 := rest_len b s e
  have l3 := both_len a b
  have l4 := either_len a b
  have sa : ∀ t, Inn a t → 0 ≤ t ∧ t < 100 := fun t ⟨p, hp, h1, h2⟩ => by have := h.ba p hp; omega
  have sb : ∀ t, Inn b t → 0 ≤ t ∧ t < 100 := fun t ⟨p, hp, h1, h2⟩ => by have := h.bb p hp; omega
  
  obtain ⟨S, hS⟩ : ∃ S : Sp, S = [(s, e)] := ⟨_, rfl⟩
  have lnS : ln [(s, e)] = e - s + 1 := by show (e - s + 1) + 0 = _; omega
  have ln0 : ln [] = 0 := rfl
  rw [← hS] at nS iS lnS ⊢
  have lS : S.length = 1 := by rw [hS]; rfl
  have BS := both_spec na nS
  have l7 := both_len a S
  have k1 := len_law na nb B1.1 B2.1 (fun t ht => by have := sa t ht; omega) (fun t ht => by have := sb t ht; omega) B1.2 B2.2
  have k2 := len_law R1.1 BS.1 (r := []) trivial nS (fun t ht => by have := (R1.2 t).mp ht; have := h.s0; have := h.e1; omega) (fun t ht => by have := ((BS.2 t).mp ht).1; have := sa t this; omega)
    (fun t => by rw [R1.2, BS.2]; exact ⟨fun x => absurd x (fun y => inn_nil.mp y), fun x => absurd x.2.1 x.1.2.2⟩)
    (fun t => by
      rw [R1.2, BS.2, iS]
      constructor
      · rintro ⟨x, y⟩
        by_cases q : Inn a t
        · exact .inr ⟨q, x, y⟩
        · exact .inl ⟨x, y, q⟩
      · rintro (⟨x, y, _⟩ | ⟨_, x, y⟩)
        · exact ⟨x, y⟩
        · exact ⟨x, y⟩)
  rw [ln0, lnS] at k2
  have e1 := at_both (a := a) (b := b) (by omega)
  have e2 := at_either (a := a) (b := b) (by omega)
  have e3 := at_both (a := a) (b := S) (by omega)
  have j1 := at_length (ps := bothF a b) (by omega)
  have j2 := at_length (ps := eitherF a b) (by omega)
  have j3 := at_length (ps := a) (by omega)
  have j4 := at_length (ps := b) (by omega)
  have j5 := at_length (ps := restF a s e) (by omega)
  have j6 := at_length (ps := bothF a S) (by omega)
  have g1 : (!(ln (bothF a b) + ln (eitherF a b) == ln a + ln b)) = false := by rw [k1]; simp
  have g2 : (!(ln (restF a s e) + ln (bothF a S) == e - s + 1)) = false := by rw [k2]; simp
  unfold t_law_16
  repeat (first | walk_at "ev" | simp only [e1, e2, e3, j1, j2, j3, j4, j5, j6, g1, g2])
theorem tl17 {a b c : Sp} {s e : Int} (h : Dn a b c s e) : t_law_17 [v0, v1, v2, v3, some (.val (.list (prs ([(s, e)])))), v5, v6, v7, v8, v9, some (.val (.list (prs (a)))), some (.val (.list (prs (b)))), some (.val (.list (prs (c)))), some (.val (.int s)), some (.val (.int e)), some (.val (.list (prs (restF a s e)))), some (.val (.list (prs (restF b s e)))), some (.val (.list (inz (tk a)))), some (.val (.list (inz (tk b)))), v19, v20, v21, v22, v23, v24, none, none] = some (.nx, [v0, v1, v2, v3, some (.val (.list (prs ([(s, e)])))), v5, v6, v7, v8, v9, some (.val (.list (prs (a)))), some (.val (.list (prs (b)))), some (.val (.list (prs (c)))), some (.val (.int s)), some (.val (.int e)), some (.val (.list (prs (restF a s e)))), some (.val (.list (prs (restF b s e)))), some (.val (.list (inz (tk a)))), some (.val (.list (inz (tk b)))), some (.val (.tuple (prs (a.map sh)))), some (.val (.tuple (prs (b.map sh)))), v21, v22, v23, v24, none, none]) := by
  have hla := h.la
  have hlb := h.lb
  have eg : g_law_4 = g_law_5 := rfl
  have ee : e_law_4 = e_law_5 := rfl
  unfold t_law_17
  rw [eg, ee]
  repeat (first | walk_at "ev" | rw [comp_sh (by omega)])
theorem tl18 {a b c : Sp} {s e : Int} (h : Dn a b c s e) : t_law_18 [v0, v1, v2, v3, some (.val (.list (prs ([(s, e)])))), v5, v6, v7, v8, v9, some (.val (.list (prs (a)))), some (.val (.list (prs (b)))), some (.val (.list (prs (c)))), some (.val (.int s)), some (.val (.int e)), some (.val (.list (prs (restF a s e)))), some (.val (.list (prs (restF b s e)))), some (.val (.list (inz (tk a)))), some (.val (.list (inz (tk b)))), some (.val (.tuple (prs (a.map sh)))), some (.val (.tuple (prs (b.map sh)))), v21, v22, v23, v24, none, none] = some (.nx, [v0, v1, v2, v3, some (.val (.list (prs ([(s, e)])))), some (.own false (prs (restF a s e))), v6, v7, v8, v9, some (.val (.list (prs (a)))), some (.val (.list (prs (b)))), some (.val (.list (prs (c)))), some (.val (.int s)), some (.val (.int e)), some (.val (.list (prs (restF a s e)))), some (.val (.list (prs (restF b s e)))), some (.val (.list (inz (tk a)))), some (.val (.list (inz (tk b)))), some (.val (.tuple (prs (a.map sh)))), some (.val (.tuple (prs (b.map sh)))), v21, v22, v23, v24, none, none]) := by
  have hla := h.la
  have hlb := h.lb
  have hlc := h.lc
  have na := h.na
  have nb := h.nb
  have nc := h.nc
  have nS : Nm [(s, e)] := ⟨by have := h.s1; have := h.e0; show s ≤ e; omega, fun _ q => by simp at q, trivial⟩
  have iS : ∀ t, Inn [(s, e)] t ↔ s ≤ t ∧ t ≤ e := fun t => by rw [inn_cons]; exact ⟨fun x => x.elim id fun y => absurd y (fun z => inn_nil.mp z), .inl⟩
  have R1 := rest_spec na.sr s e
  have R2 := rest_spec nb.sr s e
  have B1 := both_spec na nb
  have B2 := either_spec na nb
  have l1 := rest_len a s e
  have l2 := rest_len b s e
  have l3 := both_len a b
  have l4 := either_len a b
  have oa : ∀ p ∈ a, p.1 ≤ p.2 := h.na.val
  have ob : ∀ p ∈ b, p.1 ≤ p.2 := h.nb.val
  have hse : s ≤ e := by have := h.s1; have := h.e0; omega
  have oab : ∀ p ∈ a ++ b, p.1 ≤ p.2 := fun p hp => (List.mem_append.mp hp).elim (oa p) (ob p)
  have oaa : ∀ p ∈ a ++ a, p.1 ≤ p.2 := fun p hp => (List.mem_append.mp hp).elim (oa p) (oa p)
  have fsp : ∀ q : Sp, (∀ p ∈ q, p.1 ≤ p.2) → ∀ r : Sp, Nm r → (∀ t, Inn r t ↔ s ≤ t ∧ t ≤ e ∧ ¬ Inn q t) → restF (sortP q) s e = r := fun q hq r hr hi => by
    have z := rest_spec (sr_sortP hq) s e
    refine nm_ext z.1 hr fun t => ?_
    rw [z.2, hi, inn_perm (sortP_perm q)]
  
  have e1 := at_free_spells (ps := a) (s := s) (e := e) (by omega) oa hse
  rw [fsp a oa _ R1.1 R1.2] at e1
  unfold t_law_18
  repeat (first | walk_at "ev" | simp only [e1])
theorem tl19 {a b c : Sp} {s e : Int} (h : Dn a b c s e) : t_law_19 [v0, v1, v2, v3, some (.val (.list (prs ([(s, e)])))), some (.own false (prs (restF a s e))), v6, v7, v8, v9, some (.val (.list (prs (a)))), some (.val (.list (prs (b)))), some (.val (.list (prs (c)))), some (.val (.int s)), some (.val (.int e)), some (.val (.list (prs (restF a s e)))), some (.val (.list (prs (restF b s e)))), some (.val (.list (inz (tk a)))), some (.val (.list (inz (tk b)))), some (.val (.tuple (prs (a.map sh)))), some (.val (.tuple (prs (b.map sh)))), v21, v22, v23, v24, none, none] = some (.nx, [v0, v1, v2, v3, some (.val (.list (prs ([(s, e)])))), some (.own false (prs (restF a s e))), v6, v7, v8, v9, some (.val (.list (prs (a)))), some (.val (.list (prs (b)))), some (.val (.list (prs (c)))), some (.val (.int s)), some (.val (.int e)), some (.val (.list (prs (restF a s e)))), some (.val (.list (prs (restF b s e)))), some (.val (.list (inz (tk a)))), some (.val (.list (inz (tk b)))), some (.val (.tuple (prs (a.map sh)))), some (.val (.tuple (prs (b.map sh)))), v21, v22, v23, v24, none, none]) := by
  have hla := h.la
  have hlb := h.lb
  have hlc := h.lc
  have na := h.na
  have nb := h.nb
  have nc := h.nc
  have nS : Nm [(s, e)] := ⟨by have := h.s1; have := h.e0; show s ≤ e; omega, fun _ q => by simp at q, trivial⟩
  have iS : ∀ t, Inn [(s, e)] t ↔ s ≤ t ∧ t ≤ e := fun t => by rw [inn_cons]; exact ⟨fun x => x.elim id fun y => absurd y (fun z => inn_nil.mp z), .inl⟩
  have R1 := rest_spec na.sr s e
  have R2 := rest_spec nb.sr s e
  have B1 := both_spec na nb
  have B2 := either_spec na nb
  have l1 := rest_len a s e
  have l2 := rest_len b s e
  have l3 := both_len a b
  have l4 := either_len a b
  have oa : ∀ p ∈ a, p.1 ≤ p.2 := h.na.val
  have ob : ∀ p ∈ b, p.1 ≤ p.2 := h.nb.val
  have hse : s ≤ e := by have := h.s1; have := h.e0; omega
  have oab : ∀ p ∈ a ++ b, p.1 ≤ p.2 := fun p hp => (List.mem_append.mp hp).elim (oa p) (ob p)
  have oaa : ∀ p ∈ a ++ a, p.1 ≤ p.2 := fun p hp => (List.mem_append.mp hp).elim (oa p) (oa p)
  have fsp : ∀ q : Sp, (∀ p ∈ q, p.1 ≤ p.2) → ∀ r : Sp, Nm r → (∀ t, Inn r t ↔ s ≤ t ∧ t ≤ e ∧ ¬ Inn q t) → restF (sortP q) s e = r := fun q hq r hr hi => by
    have z := rest_spec (sr_sortP hq) s e
    refine nm_ext z.1 hr fun t => ?_
    rw [z.2, hi, inn_perm (sortP_perm q)]
  have cab : gAdd (.tuple (prs (a.map sh))) (.tuple (prs (b.map sh))) = some (.tp (prs ((a ++ b).map sh))) := by
    rw [gAdd_tuple (by rw [prs_len, prs_len, List.length_map, List.length_map]; omega), ← prs_app, List.map_append]
  have caa : gAdd (.tuple (prs (a.map sh))) (.tuple (prs (a.map sh))) = some (.tp (prs ((a ++ a).map sh))) := by
    rw [gAdd_tuple (by rw [prs_len, List.length_map]; omega), ← prs_app, List.map_append]
  have lab : (a ++ b).length ≤ 8 := by rw [List.length_append]; omega
  have laa : (a ++ a).length ≤ 8 := by rw [List.length_append]; omega
  
  have BO := both_spec R1.1 R2.1
  have l5 := both_len (restF a s e) (restF b s e)
  have e1 := at_free_spells (ps := a ++ b) (s := s) (e := e) (by omega) oab hse
  have e2 := at_free_spells (ps := a ++ a) (s := s) (e := e) (by omega) oaa hse
  have e3 := at_both (a := restF a s e) (b := restF b s e) (by omega)
  rw [fsp _ oab (bothF (restF a s e) (restF b s e)) BO.1 fun t => by
    rw [BO.2, R1.2, R2.2, inn_append]
    constructor
    · rintro ⟨⟨x, y, z⟩, ⟨_, _, z'⟩⟩
      exact ⟨x, y, fun r => r.elim z z'⟩
    · rintro ⟨x, y, z⟩
      exact ⟨⟨x, y, fun r => z (.inl r)⟩, ⟨x, y, fun r => z (.inr r)⟩⟩] at e1
  rw [fsp _ oaa (restF a s e) R1.1 fun t => by
    rw [R1.2, inn_append, or_self]] at e2
  unfold t_law_19
  repeat (first | walk_at "ev" | simp only [e1, e2, e3, cab, caa, gNe_prs])
theorem tl20 {is : List Int} {a b c : Sp} {s e : Int} (h : Dn a b c s e) : ∃ is' n k, t_law_20 [v0, some (.own false (inz is)), v2, v3, some (.val (.list (prs ([(s, e)])))), some (.own false (prs (restF a s e))), v6, v7, v8, v9, some (.val (.list (prs (a)))), some (.val (.list (prs (b)))), some (.val (.list (prs (c)))), some (.val (.int s)), some (.val (.int e)), some (.val (.list (prs (restF a s e)))), some (.val (.list (prs (restF b s e)))), some (.val (.list (inz (tk a)))), some (.val (.list (inz (tk b)))), some (.val (.tuple (prs (a.map sh)))), some (.val (.tuple (prs (b.map sh)))), v21, v22, v23, v24, none, none] = some (.nx, [v0, some (.own false (inz is')), v2, v3, some (.val (.list (prs ([(s, e)])))), some (.own false (prs (restF a s e))), v6, v7, v8, v9, some (.val (.list (prs (a)))), some (.val (.list (prs (b)))), some (.val (.list (prs (c)))), some (.val (.int s)), some (.val (.int e)), some (.val (.list (prs (restF a s e)))), some (.val (.list (prs (restF b s e)))), some (.val (.list (inz (tk a)))), some (.val (.list (inz (tk b)))), some (.val (.tuple (prs (a.map sh)))), some (.val (.tuple (prs (b.map sh)))), some (.val (.int n)), some (.val (.int k)), v23, v24, none, none]) ∧ 1 ≤ n ∧ n < 10 ∧ s ≤ k ∧ k < s + 10 := by
  obtain ⟨x, is1, e1, x0, x1⟩ := at_take (is := is) (l := 9) (by decide)
  obtain ⟨y, is2, e2, y0, y1⟩ := at_take (is := is1) (l := 10) (by decide)
  refine ⟨is2, 1 + x, s + y, ?_, by omega, by omega, by omega, by omega⟩
  unfold t_law_20
  repeat (first | walk_at "ev" | simp only [e1, e2])
theorem tl21 {a b c : Sp} {s e : Int} (h : Dn a b c s e) {n k : Int} (n1 : 1 ≤ n) (n2 : n < 10) (k1 : s ≤ k) (k2 : k < s + 10) : t_law_21 [v0, v1, v2, v3, some (.val (.list (prs ([(s, e)])))), some (.own false (prs (restF a s e))), v6, v7, v8, v9, some (.val (.list (prs (a)))), some (.val (.list (prs (b)))), some (.val (.list (prs (c)))), some (.val (.int s)), some (.val (.int e)), some (.val (.list (prs (restF a s e)))), some (.val (.list (prs (restF b s e)))), some (.val (.list (inz (tk a)))), some (.val (.list (inz (tk b)))), some (.val (.tuple (prs (a.map sh)))), some (.val (.tuple (prs (b.map sh)))), some (.val (.int n)), some (.val (.int k)), v23, v24, none, none] = some (.nx, [v0, v1, v2, v3, some (.val (.list (prs ([(s, e)])))), some (.own false (prs (restF a s e))), some (.val (.int (gp n k (sortP (a ++ b))))), v7, v8, v9, some (.val (.list (prs (a)))), some (.val (.list (prs (b)))), some (.val (.list (prs (c)))), some (.val (.int s)), some (.val (.int e)), some (.val (.list (prs (restF a s e)))), some (.val (.list (prs (restF b s e)))), some (.val (.list (inz (tk a)))), some (.val (.list (inz (tk b)))), some (.val (.tuple (prs (a.map sh)))), some (.val (.tuple (prs (b.map sh)))), some (.val (.int n)), some (.val (.int k)), v23, v24, none, none]) := by
  have hla := h.la
  have hlb := h.lb
  have hlc := h.lc
  have na := h.na
  have nb := h.nb
  have nc := h.nc
  have nS : Nm [(s, e)] := ⟨by have := h.s1; have := h.e0; show s ≤ e; omega, fun _ q => by simp at q, trivial⟩
  have iS : ∀ t, Inn [(s, e)] t ↔ s ≤ t ∧ t ≤ e := fun t => by rw [inn_cons]; exact ⟨fun x => x.elim id fun y => absurd y (fun z => inn_nil.mp z), .inl⟩
  have R1 := rest_spec na.sr s e
  have R2 := rest_spec nb.sr s e
  have B1 := both_spec na nb
  have B2 := either_spec na nb
  have l1 := rest_len a s e
  have l2 := rest_len b s e
  have l3 := both_len a b
  have l4 := either_len a b
  have oa : ∀ p ∈ a, p.1 ≤ p.2 := h.na.val
  have ob : ∀ p ∈ b, p.1 ≤ p.2 := h.nb.val
  have hse : s ≤ e := by have := h.s1; have := h.e0; omega
  have oab : ∀ p ∈ a ++ b, p.1 ≤ p.2 := fun p hp => (List.mem_append.mp hp).elim (oa p) (ob p)
  have oaa : ∀ p ∈ a ++ a, p.1 ≤ p.2 := fun p hp => (List.mem_append.mp hp).elim (oa p) (oa p)
  have fsp : ∀ q : Sp, (∀ p ∈ q, p.1 ≤ p.2) → ∀ r : Sp, Nm r → (∀ t, Inn r t ↔ s ≤ t ∧ t ≤ e ∧ ¬ Inn q t) → restF (sortP q) s e = r := fun q hq r hr hi => by
    have z := rest_spec (sr_sortP hq) s e
    refine nm_ext z.1 hr fun t => ?_
    rw [z.2, hi, inn_perm (sortP_perm q)]
  have cab : gAdd (.tuple (prs (a.map sh))) (.tuple (prs (b.map sh))) = some (.tp (prs ((a ++ b).map sh))) := by
    rw [gAdd_tuple (by rw [prs_len, prs_len, List.length_map, List.length_map]; omega), ← prs_app, List.map_append]
  have caa : gAdd (.tuple (prs (a.map sh))) (.tuple (prs (a.map sh))) = some (.tp (prs ((a ++ a).map sh))) := by
    rw [gAdd_tuple (by rw [prs_len, List.length_map]; omega), ← prs_app, List.map_append]
  have lab : (a ++ b).length ≤ 8 := by rw [List.length_append]; omega
  have laa : (a ++ a).length ≤ 8 := by rw [List.length_append]; omega
  
  have e1 := at_first_gap (ps := a ++ b) (k := k) (n := n) (by omega) oab
  unfold t_law_21
  repeat (first | walk_at "ev" | simp only [e1, cab])
theorem tl22 {a b c : Sp} {s e : Int} (h : Dn a b c s e) {n k : Int} (n1 : 1 ≤ n) (n2 : n < 10) (k1 : s ≤ k) (k2 : k < s + 10) : t_law_22 [v0, v1, v2, v3, some (.val (.list (prs ([(s, e)])))), some (.own false (prs (restF a s e))), some (.val (.int (gp n k (sortP (a ++ b))))), v7, v8, v9, some (.val (.list (prs (a)))), some (.val (.list (prs (b)))), some (.val (.list (prs (c)))), some (.val (.int s)), some (.val (.int e)), some (.val (.list (prs (restF a s e)))), some (.val (.list (prs (restF b s e)))), some (.val (.list (inz (tk a)))), some (.val (.list (inz (tk b)))), some (.val (.tuple (prs (a.map sh)))), some (.val (.tuple (prs (b.map sh)))), some (.val (.int n)), some (.val (.int k)), v23, v24, none, none] = some (.nx, [v0, v1, v2, v3, some (.val (.list (prs ([(s, e)])))), some (.own false (prs (restF a s e))), some (.val (.int (gp n k (sortP (a ++ b))))), some (.own false (inz (((restF (eitherF a b) k 300).filter fun p => decide (n ≤ p.2 - mx p.1 k + 1)).map fun p => mx p.1 k))), v8, v9, some (.val (.list (prs (a)))), some (.val (.list (prs (b)))), some (.val (.list (prs (c)))), some (.val (.int s)), some (.val (.int e)), some (.val (.list (prs (restF a s e)))), some (.val (.list (prs (restF b s e)))), some (.val (.list (inz (tk a)))), some (.val (.list (inz (tk b)))), some (.val (.tuple (prs (a.map sh)))), some (.val (.tuple (prs (b.map sh)))), some (.val (.int n)), some (.val (.int k)), v23, v24, none, none]) := by
  have hla := h.la
  have hlb := h.lb
  have hlc := h.lc
  have na := h.na
  have nb := h.nb
  have nc := h.nc
  have nS : Nm [(s, e)] := ⟨by have := h.s1; have := h.e0; show s ≤ e; omega, fun _ q => by simp at q, trivial⟩
  have iS : ∀ t, Inn [(s, e)] t ↔ s ≤ t ∧ t ≤ e := fun t => by rw [inn_cons]; exact ⟨fun x => x.elim id fun y => absurd y (fun z => inn_nil.mp z), .inl⟩
  have R1 := rest_spec na.sr s e
  have R2 := rest_spec nb.sr s e
  have B1 := both_spec na nb
  have B2 := either_spec na nb
  have l1 := rest_len a s e
  have l2 := rest_len b s e
  have l3 := both_len a b
  have l4 := either_len a b
  
  have l5 := rest_len (eitherF a b) k 300
  have e1 := at_either (a := a) (b := b) (by omega)
  have e2 := at_rest (ps := eitherF a b) (s := k) (e := 300) (by omega)
  unfold t_law_22
  repeat (first | walk_at "ev" | rw [comp_row (by omega)] | simp only [e1, e2])
theorem tl23 {a b c : Sp} {s e : Int} (h : Dn a b c s e) {n k : Int} (n1 : 1 ≤ n) (n2 : n < 10) (k1 : s ≤ k) (k2 : k < s + 10) : t_law_23 [v0, v1, v2, v3, some (.val (.list (prs ([(s, e)])))), some (.own false (prs (restF a s e))), some (.val (.int (gp n k (sortP (a ++ b))))), some (.own false (inz (((restF (eitherF a b) k 300).filter fun p => decide (n ≤ p.2 - mx p.1 k + 1)).map fun p => mx p.1 k))), v8, v9, some (.val (.list (prs (a)))), some (.val (.list (prs (b)))), some (.val (.list (prs (c)))), some (.val (.int s)), some (.val (.int e)), some (.val (.list (prs (restF a s e)))), some (.val (.list (prs (restF b s e)))), some (.val (.list (inz (tk a)))), some (.val (.list (inz (tk b)))), some (.val (.tuple (prs (a.map sh)))), some (.val (.tuple (prs (b.map sh)))), some (.val (.int n)), some (.val (.int k)), v23, v24, none, none] = some (.nx, [v0, v1, v2, v3, some (.val (.list (prs ([(s, e)])))), some (.own false (prs (restF a s e))), some (.val (.int (gp n k (sortP (a ++ b))))), some (.own false (inz (((restF (eitherF a b) k 300).filter fun p => decide (n ≤ p.2 - mx p.1 k + 1)).map fun p => mx p.1 k))), v8, v9, some (.val (.list (prs (a)))), some (.val (.list (prs (b)))), some (.val (.list (prs (c)))), some (.val (.int s)), some (.val (.int e)), some (.val (.list (prs (restF a s e)))), some (.val (.list (prs (restF b s e)))), some (.val (.list (inz (tk a)))), some (.val (.list (inz (tk b)))), some (.val (.tuple (prs (a.map sh)))), some (.val (.tuple (prs (b.map sh)))), some (.val (.int n)), some (.val (.int k)), v23, v24, none, none]) := by
  have hla := h.la
  have hlb := h.lb
  have hlc := h.lc
  have na := h.na
  have nb := h.nb
  have nc := h.nc
  have nS : Nm [(s, e)] := ⟨by have := h.s1; have := h.e0; show s ≤ e; omega, fun _ q => by simp at q, trivial⟩
  have iS : ∀ t, Inn [(s, e)] t ↔ s ≤ t ∧ t ≤ e := fun t => by rw [inn_cons]; exact ⟨fun x => x.elim id fun y => absurd y (fun z => inn_nil.mp z), .inl⟩
  have R1 := rest_spec na.sr s e
  have R2 := rest_spec nb.sr s e
  have B1 := both_spec na nb
  have B2 := either_spec na nb
  have l1 := rest_len a s e
  have l2 := rest_len b s e
  have l3 := both_len a b
  have l4 := either_len a b
  have oa : ∀ p ∈ a, p.1 ≤ p.2 := h.na.val
  have ob : ∀ p ∈ b, p.1 ≤ p.2 := h.nb.val
  have hse : s ≤ e := by have := h.s1; have := h.e0; omega
  have oab : ∀ p ∈ a ++ b, p.1 ≤ p.2 := fun p hp => (List.mem_append.mp hp).elim (oa p) (ob p)
  have oaa : ∀ p ∈ a ++ a, p.1 ≤ p.2 := fun p hp => (List.mem_append.mp hp).elim (oa p) (oa p)
  have fsp : ∀ q : Sp, (∀ p ∈ q, p.1 ≤ p.2) → ∀ r : Sp, Nm r → (∀ t, Inn r t ↔ s ≤ t ∧ t ≤ e ∧ ¬ Inn q t) → restF (sortP q) s e = r := fun q hq r hr hi => by
    have z := rest_spec (sr_sortP hq) s e
    refine nm_ext z.1 hr fun t => ?_
    rw [z.2, hi, inn_perm (sortP_perm q)]
  have sa : ∀ t, Inn a t → 0 ≤ t ∧ t < 100 := fun t ⟨p, hp, h1, h2⟩ => by have := h.ba p hp; omega
  have sb : ∀ t, Inn b t → 0 ≤ t ∧ t < 100 := fun t ⟨p, hp, h1, h2⟩ => by have := h.bb p hp; omega
  
  have hs0 := h.s0
  have hs1 := h.s1
  have RR := rest_spec B2.1.sr k 300
  have G := gp_spec n1 (sortP (a ++ b)) k (sr_sortP oab)
  have hU : ∀ t, Inn (sortP (a ++ b)) t ↔ Inn (eitherF a b) t := fun t => by rw [inn_perm (sortP_perm _), inn_append, B2.2]
  have hF : (restF (eitherF a b) k 300).filter (fun p => decide (n ≤ p.2 - mx p.1 k + 1)) = (restF (eitherF a b) k 300).filter (lng n) := List.filter_congr fun p hp => by
    have hk := ((RR.2 p.1).mp ⟨p, hp, Int.le_refl _, RR.1.val p hp⟩).1
    have : mx p.1 k = p.1 := by unfold mx; rw [if_neg (by omega)]
    unfold lng
    rw [this]
  rw [hF]
  have key : ∃ q rest, (restF (eitherF a b) k 300).filter (lng n) = q :: rest ∧ mx q.1 k = gp n k (sortP (a ++ b)) := by
    cases hq : (restF (eitherF a b) k 300).filter (lng n) with
    | nil =>
      have hno : (restF (eitherF a b) k 300).find? (lng n) = none := List.find?_eq_none.mpr fun x hx hl => by
        have : x ∈ (restF (eitherF a b) k 300).filter (lng n) := List.mem_filter.mpr ⟨hx, hl⟩
        rw [hq] at this
        simp at this
      refine absurd ?_ (find_none (lo := k) (hi := 300) n1 RR.1 RR.2 hno (s := 200) (by omega) (by omega))
      intro t h1 h2 h3
      rcases (B2.2 t).mp h3 with x | x
      · have := sa t x
        omega
      · have := sb t x
        omega
    | cons q rest =>
      have hso : (restF (eitherF a b) k 300).find? (lng n) = some q := by
        rw [← List.head?_filter, hq]
        rfl
      have L := find_lst (lo := k) (hi := 300) n1 RR.1 RR.2 hso
      have hmx : mx q.1 k = q.1 := by unfold mx; rw [if_neg (by have := L.1; omega)]
      refine ⟨q, rest, rfl, ?_⟩
      rw [hmx]
      have G' : Lst (Inn (eitherF a b)) n k (gp n k (sortP (a ++ b))) := by
        refine ⟨G.1, fun t x y z => G.2.1 t x y ((hU t).mpr z), fun s x y z => G.2.2 s x y fun t u v w => z t u v ((hU t).mp w)⟩
      exact L.uniq G'
  obtain ⟨q, rest, hq, hk⟩ := key
  rw [hq, List.map_cons, hk]
  have hne : (!(gp n k (sortP (a ++ b)) == gp n k (sortP (a ++ b)))) = false := by simp
  unfold t_law_23
  repeat (first | walk_at "ev" | simp only [hne])
theorem tl24 {a b c : Sp} {s e : Int} (h : Dn a b c s e) {n k : Int} (n1 : 1 ≤ n) (n2 : n < 10) (k1 : s ≤ k) (k2 : k < s + 10) : t_law_24 [v0, v1, v2, v3, some (.val (.list (prs ([(s, e)])))), some (.own false (prs (restF a s e))), some (.val (.int (gp n k (sortP (a ++ b))))), some (.own false (inz (((restF (eitherF a b) k 300).filter fun p => decide (n ≤ p.2 - mx p.1 k + 1)).map fun p => mx p.1 k))), v8, v9, some (.val (.list (prs (a)))), some (.val (.list (prs (b)))), some (.val (.list (prs (c)))), some (.val (.int s)), some (.val (.int e)), some (.val (.list (prs (restF a s e)))), some (.val (.list (prs (restF b s e)))), some (.val (.list (inz (tk a)))), some (.val (.list (inz (tk b)))), some (.val (.tuple (prs (a.map sh)))), some (.val (.tuple (prs (b.map sh)))), some (.val (.int n)), some (.val (.int k)), v23, v24, none, none] = some (.nx, [v0, v1, v2, v3, some (.val (.list (prs ([(s, e)])))), some (.own false (prs (restF a s e))), some (.val (.int (gp n k (sortP (a ++ b))))), some (.own false (inz (((restF (eitherF a b) k 300).filter fun p => decide (n ≤ p.2 - mx p.1 k + 1)).map fun p => mx p.1 k))), v8, v9, some (.val (.list (prs (a)))), some (.val (.list (prs (b)))), some (.val (.list (prs (c)))), some (.val (.int s)), some (.val (.int e)), some (.val (.list (prs (restF a s e)))), some (.val (.list (prs (restF b s e)))), some (.val (.list (inz (tk a)))), some (.val (.list (inz (tk b)))), some (.val (.tuple (prs (a.map sh)))), some (.val (.tuple (prs (b.map sh)))), some (.val (.int n)), some (.val (.int k)), some (.val (z1)), some (.val (wk)), none, none]) := by
  unfold t_law_24
  repeat (first | walk_at "ev" | rfl)
theorem tl25 {a b c : Sp} {s e : Int} (h : Dn a b c s e) {n k : Int} (n1 : 1 ≤ n) (n2 : n < 10) (k1 : s ≤ k) (k2 : k < s + 10) : t_law_25 [v0, v1, v2, v3, some (.val (.list (prs ([(s, e)])))), some (.own false (prs (restF a s e))), some (.val (.int (gp n k (sortP (a ++ b))))), some (.own false (inz (((restF (eitherF a b) k 300).filter fun p => decide (n ≤ p.2 - mx p.1 k + 1)).map fun p => mx p.1 k))), v8, v9, some (.val (.list (prs (a)))), some (.val (.list (prs (b)))), some (.val (.list (prs (c)))), some (.val (.int s)), some (.val (.int e)), some (.val (.list (prs (restF a s e)))), some (.val (.list (prs (restF b s e)))), some (.val (.list (inz (tk a)))), some (.val (.list (inz (tk b)))), some (.val (.tuple (prs (a.map sh)))), some (.val (.tuple (prs (b.map sh)))), some (.val (.int n)), some (.val (.int k)), some (.val (z1)), some (.val (wk)), none, none] = some (.nx, [v0, v1, v2, v3, some (.val (.list (prs ([(s, e)])))), some (.own false (prs (restF a s e))), some (.val (.int (gp n k (sortP (a ++ b))))), some (.own false (inz (((restF (eitherF a b) k 300).filter fun p => decide (n ≤ p.2 - mx p.1 k + 1)).map fun p => mx p.1 k))), some (.val (pns a b)), v9, some (.val (.list (prs (a)))), some (.val (.list (prs (b)))), some (.val (.list (prs (c)))), some (.val (.int s)), some (.val (.int e)), some (.val (.list (prs (restF a s e)))), some (.val (.list (prs (restF b s e)))), some (.val (.list (inz (tk a)))), some (.val (.list (inz (tk b)))), some (.val (.tuple (prs (a.map sh)))), some (.val (.tuple (prs (b.map sh)))), some (.val (.int n)), some (.val (.int k)), some (.val (z1)), some (.val (wk)), none, none]) := by
  unfold t_law_25
  repeat (first | walk_at "ev" | rfl)
theorem tl26 {a b c : Sp} {s e : Int} (h : Dn a b c s e) {n k : Int} (n1 : 1 ≤ n) (n2 : n < 10) (k1 : s ≤ k) (k2 : k < s + 10) : t_law_26 [v0, v1, v2, v3, some (.val (.list (prs ([(s, e)])))), some (.own false (prs (restF a s e))), some (.val (.int (gp n k (sortP (a ++ b))))), some (.own false (inz (((restF (eitherF a b) k 300).filter fun p => decide (n ≤ p.2 - mx p.1 k + 1)).map fun p => mx p.1 k))), some (.val (pns a b)), v9, some (.val (.list (prs (a)))), some (.val (.list (prs (b)))), some (.val (.list (prs (c)))), some (.val (.int s)), some (.val (.int e)), some (.val (.list (prs (restF a s e)))), some (.val (.list (prs (restF b s e)))), some (.val (.list (inz (tk a)))), some (.val (.list (inz (tk b)))), some (.val (.tuple (prs (a.map sh)))), some (.val (.tuple (prs (b.map sh)))), some (.val (.int n)), some (.val (.int k)), some (.val (z1)), some (.val (wk)), none, none] = some (.nx, [v0, v1, v2, v3, some (.val (.list (prs ([(s, e)])))), some (.own false (prs (restF a s e))), some (.val (.int (gp n k (sortP (a ++ b))))), some (.own false (inz (((restF (eitherF a b) k 300).filter fun p => decide (n ≤ p.2 - mx p.1 k + 1)).map fun p => mx p.1 k))), some (.val (pns a b)), v9, some (.val (.list (prs (a)))), some (.val (.list (prs (b)))), some (.val (.list (prs (c)))), some (.val (.int s)), some (.val (.int e)), some (.val (.list (prs (restF a s e)))), some (.val (.list (prs (restF b s e)))), some (.val (.list (inz (tk a)))), some (.val (.list (inz (tk b)))), some (.val (.tuple (prs (a.map sh)))), some (.val (.tuple (prs (b.map sh)))), some (.val (.int n)), some (.val (.int k)), some (.val (z1)), some (.val (wk)), none, none]) := by
  have hla := h.la
  have hlb := h.lb
  have hlc := h.lc
  have na := h.na
  have nb := h.nb
  have nc := h.nc
  have nS : Nm [(s, e)] := ⟨by have := h.s1; have := h.e0; show s ≤ e; omega, fun _ q => by simp at q, trivial⟩
  have iS : ∀ t, Inn [(s, e)] t ↔ s ≤ t ∧ t ≤ e := fun t => by rw [inn_cons]; exact ⟨fun x => x.elim id fun y => absurd y (fun z => inn_nil.mp z), .inl⟩
  have R1 := rest_spec na.sr s e
  have R2 := rest_spec nb.sr s e
  have B1 := both_spec na nb
  have B2 := either_spec na nb
  have l1 := rest_len a s e
  have l2 := rest_len b s e
  have l3 := both_len a b
  have l4 := either_len a b
  have oa : ∀ p ∈ a, p.1 ≤ p.2 := h.na.val
  have ob : ∀ p ∈ b, p.1 ≤ p.2 := h.nb.val
  have hse : s ≤ e := by have := h.s1; have := h.e0; omega
  have oab : ∀ p ∈ a ++ b, p.1 ≤ p.2 := fun p hp => (List.mem_append.mp hp).elim (oa p) (ob p)
  have oaa : ∀ p ∈ a ++ a, p.1 ≤ p.2 := fun p hp => (List.mem_append.mp hp).elim (oa p) (oa p)
  have fsp : ∀ q : Sp, (∀ p ∈ q, p.1 ≤ p.2) → ∀ r : Sp, Nm r → (∀ t, Inn r t ↔ s ≤ t ∧ t ≤ e ∧ ¬ Inn q t) → restF (sortP q) s e = r := fun q hq r hr hi => by
    have z := rest_spec (sr_sortP hq) s e
    refine nm_ext z.1 hr fun t => ?_
    rw [z.2, hi, inn_perm (sortP_perm q)]
  have cab : gAdd (.tuple (prs (a.map sh))) (.tuple (prs (b.map sh))) = some (.tp (prs ((a ++ b).map sh))) := by
    rw [gAdd_tuple (by rw [prs_len, prs_len, List.length_map, List.length_map]; omega), ← prs_app, List.map_append]
  have caa : gAdd (.tuple (prs (a.map sh))) (.tuple (prs (a.map sh))) = some (.tp (prs ((a ++ a).map sh))) := by
    rw [gAdd_tuple (by rw [prs_len, List.length_map]; omega), ← prs_app, List.map_append]
  have lab : (a ++ b).length ≤ 8 := by rw [List.length_append]; omega
  have laa : (a ++ a).length ≤ 8 := by rw [List.length_append]; omega
  
  have hs0 := h.s0
  have hs1 := h.s1
  have he1 := h.e1
  have he0 := h.e0
  have kA : okB a := ⟨by omega, oa⟩
  have kB : okB b := ⟨by omega, ob⟩
  have ra : restF (sortP a) s e = restF a s e := fsp a oa _ R1.1 R1.2
  have rb : restF (sortP b) s e = restF b s e := fsp b ob _ R2.1 R2.2
  have BO := both_spec R1.1 R2.1
  have y1 := both_spec nS R1.1
  have y2 := both_spec nS y1.1
  have y3 := both_spec nS R2.1
  have y4 := both_spec y2.1 y3.1
  have ct : bothF (bothF [(s, e)] (bothF [(s, e)] (restF a s e))) (bothF [(s, e)] (restF b s e)) = bothF (restF a s e) (restF b s e) := nm_ext y4.1 BO.1 fun t => by
    rw [y4.2, y3.2, y2.2, y1.2, BO.2, R1.2, R2.2, iS]
    constructor
    · rintro ⟨⟨_, _, x⟩, ⟨_, y⟩⟩
      exact ⟨x, y⟩
    · rintro ⟨x, y⟩
      exact ⟨⟨⟨x.1, x.2.1⟩, ⟨x.1, x.2.1⟩, x⟩, ⟨x.1, x.2.1⟩, y⟩
  
  have l5 := both_len (restF a s e) (restF b s e)
  have e1 := at_common_times kA kB hse (show e < s + 10000 by omega)
  rw [ra, rb, ct] at e1
  have e3 := at_both (a := restF a s e) (b := restF b s e) (by omega)
  unfold t_law_26
  repeat (first | walk_at "ev" | simp only [e1, e3, gNe_prs])
theorem tl27 {a b c : Sp} {s e : Int} (h : Dn a b c s e) {n k : Int} (n1 : 1 ≤ n) (n2 : n < 10) (k1 : s ≤ k) (k2 : k < s + 10) : t_law_27 [v0, v1, v2, v3, some (.val (.list (prs ([(s, e)])))), some (.own false (prs (restF a s e))), some (.val (.int (gp n k (sortP (a ++ b))))), some (.own false (inz (((restF (eitherF a b) k 300).filter fun p => decide (n ≤ p.2 - mx p.1 k + 1)).map fun p => mx p.1 k))), some (.val (pns a b)), v9, some (.val (.list (prs (a)))), some (.val (.list (prs (b)))), some (.val (.list (prs (c)))), some (.val (.int s)), some (.val (.int e)), some (.val (.list (prs (restF a s e)))), some (.val (.list (prs (restF b s e)))), some (.val (.list (inz (tk a)))), some (.val (.list (inz (tk b)))), some (.val (.tuple (prs (a.map sh)))), some (.val (.tuple (prs (b.map sh)))), some (.val (.int n)), some (.val (.int k)), some (.val (z1)), some (.val (wk)), none, none] = some (.nx, [v0, v1, v2, v3, some (.val (.list (prs ([(s, e)])))), some (.own false (prs (restF a s e))), some (.val (.int (gp n k (sortP (a ++ b))))), some (.own false (inz (((restF (eitherF a b) k 300).filter fun p => decide (n ≤ p.2 - mx p.1 k + 1)).map fun p => mx p.1 k))), some (.val (pns a b)), some (.val (fst? ((bothF (restF a s e) (restF b s e)).find? (lng n)))), some (.val (.list (prs (a)))), some (.val (.list (prs (b)))), some (.val (.list (prs (c)))), some (.val (.int s)), some (.val (.int e)), some (.val (.list (prs (restF a s e)))), some (.val (.list (prs (restF b s e)))), some (.val (.list (inz (tk a)))), some (.val (.list (inz (tk b)))), some (.val (.tuple (prs (a.map sh)))), some (.val (.tuple (prs (b.map sh)))), some (.val (.int n)), some (.val (.int k)), some (.val (z1)), some (.val (wk)), none, none]) := by
  have hla := h.la
  have hlb := h.lb
  have hlc := h.lc
  have na := h.na
  have nb := h.nb
  have nc := h.nc
  have nS : Nm [(s, e)] := ⟨by have := h.s1; have := h.e0; show s ≤ e; omega, fun _ q => by simp at q, trivial⟩
  have iS : ∀ t, Inn [(s, e)] t ↔ s ≤ t ∧ t ≤ e := fun t => by rw [inn_cons]; exact ⟨fun x => x.elim id fun y => absurd y (fun z => inn_nil.mp z), .inl⟩
  have R1 := rest_spec na.sr s e
  have R2 := rest_spec nb.sr s e
  have B1 := both_spec na nb
  have B2 := either_spec na nb
  have l1 := rest_len a s e
  have l2 := rest_len b s e
  have l3 := both_len a b
  have l4 := either_len a b
  have oa : ∀ p ∈ a, p.1 ≤ p.2 := h.na.val
  have ob : ∀ p ∈ b, p.1 ≤ p.2 := h.nb.val
  have hse : s ≤ e := by have := h.s1; have := h.e0; omega
  have oab : ∀ p ∈ a ++ b, p.1 ≤ p.2 := fun p hp => (List.mem_append.mp hp).elim (oa p) (ob p)
  have oaa : ∀ p ∈ a ++ a, p.1 ≤ p.2 := fun p hp => (List.mem_append.mp hp).elim (oa p) (oa p)
  have fsp : ∀ q : Sp, (∀ p ∈ q, p.1 ≤ p.2) → ∀ r : Sp, Nm r → (∀ t, Inn r t ↔ s ≤ t ∧ t ≤ e ∧ ¬ Inn q t) → restF (sortP q) s e = r := fun q hq r hr hi => by
    have z := rest_spec (sr_sortP hq) s e
    refine nm_ext z.1 hr fun t => ?_
    rw [z.2, hi, inn_perm (sortP_perm q)]
  have cab : gAdd (.tuple (prs (a.map sh))) (.tuple (prs (b.map sh))) = some (.tp (prs ((a ++ b).map sh))) := by
    rw [gAdd_tuple (by rw [prs_len, prs_len, List.length_map, List.length_map]; omega), ← prs_app, List.map_append]
  have caa : gAdd (.tuple (prs (a.map sh))) (.tuple (prs (a.map sh))) = some (.tp (prs ((a ++ a).map sh))) := by
    rw [gAdd_tuple (by rw [prs_len, List.length_map]; omega), ← prs_app, List.map_append]
  have lab : (a ++ b).length ≤ 8 := by rw [List.length_append]; omega
  have laa : (a ++ a).length ≤ 8 := by rw [List.length_append]; omega
  
  have hs0 := h.s0
  have hs1 := h.s1
  have he1 := h.e1
  have he0 := h.e0
  have kA : okB a := ⟨by omega, oa⟩
  have kB : okB b := ⟨by omega, ob⟩
  have ra : restF (sortP a) s e = restF a s e := fsp a oa _ R1.1 R1.2
  have rb : restF (sortP b) s e = restF b s e := fsp b ob _ R2.1 R2.2
  have BO := both_spec R1.1 R2.1
  have y1 := both_spec nS R1.1
  have y2 := both_spec nS y1.1
  have y3 := both_spec nS R2.1
  have y4 := both_spec y2.1 y3.1
  have ct : bothF (bothF [(s, e)] (bothF [(s, e)] (restF a s e))) (bothF [(s, e)] (restF b s e)) = bothF (restF a s e) (restF b s e) := nm_ext y4.1 BO.1 fun t => by
    rw [y4.2, y3.2, y2.2, y1.2, BO.2, R1.2, R2.2, iS]
    constructor
    · rintro ⟨⟨_, _, x⟩, ⟨_, y⟩⟩
      exact ⟨x, y⟩
    · rintro ⟨x, y⟩
      exact ⟨⟨⟨x.1, x.2.1⟩, ⟨x.1, x.2.1⟩, x⟩, ⟨x.1, x.2.1⟩, y⟩
  
  have e1 := at_first_common (n := n) kA kB hse (show e < s + 10000 by omega)
  rw [ra, rb, ct] at e1
  unfold t_law_27
  repeat (first | walk_at "ev" | simp only [e1])
theorem tl28 {a b c : Sp} {s e : Int} (h : Dn a b c s e) {n k : Int} (n1 : 1 ≤ n) (n2 : n < 10) (k1 : s ≤ k) (k2 : k < s + 10) : t_law_28 [v0, v1, v2, v3, some (.val (.list (prs ([(s, e)])))), some (.own false (prs (restF a s e))), some (.val (.int (gp n k (sortP (a ++ b))))), some (.own false (inz (((restF (eitherF a b) k 300).filter fun p => decide (n ≤ p.2 - mx p.1 k + 1)).map fun p => mx p.1 k))), some (.val (pns a b)), some (.val (fst? ((bothF (restF a s e) (restF b s e)).find? (lng n)))), some (.val (.list (prs (a)))), some (.val (.list (prs (b)))), some (.val (.list (prs (c)))), some (.val (.int s)), some (.val (.int e)), some (.val (.list (prs (restF a s e)))), some (.val (.list (prs (restF b s e)))), some (.val (.list (inz (tk a)))), some (.val (.list (inz (tk b)))), some (.val (.tuple (prs (a.map sh)))), some (.val (.tuple (prs (b.map sh)))), some (.val (.int n)), some (.val (.int k)), some (.val (z1)), some (.val (wk)), none, none] = some (.nx, [v0, v1, v2, v3, some (.val (.list (prs ([(s, e)])))), some (.own false (prs (restF a s e))), some (.val (.int (gp n k (sortP (a ++ b))))), some (.own false (inz (((restF (eitherF a b) k 300).filter fun p => decide (n ≤ p.2 - mx p.1 k + 1)).map fun p => mx p.1 k))), some (.val (pns a b)), some (.val (fst? ((bothF (restF a s e) (restF b s e)).find? (lng n)))), some (.val (.list (prs (a)))), some (.val (.list (prs (b)))), some (.val (.list (prs (c)))), some (.val (.int s)), some (.val (.int e)), some (.val (.list (prs (restF a s e)))), some (.val (.list (prs (restF b s e)))), some (.val (.list (inz (tk a)))), some (.val (.list (inz (tk b)))), some (.val (.tuple (prs (a.map sh)))), some (.val (.tuple (prs (b.map sh)))), some (.val (.int n)), some (.val (.int k)), some (.val (z1)), some (.val (wk)), none, none]) := by
  have hla := h.la
  have hlb := h.lb
  have hlc := h.lc
  have na := h.na
  have nb := h.nb
  have nc := h.nc
  have nS : Nm [(s, e)] := ⟨by have := h.s1; have := h.e0; show s ≤ e; omega, fun _ q => by simp at q, trivial⟩
  have iS : ∀ t, Inn [(s, e)] t ↔ s ≤ t ∧ t ≤ e := fun t => by rw [inn_cons]; exact ⟨fun x => x.elim id fun y => absurd y (fun z => inn_nil.mp z), .inl⟩
  have R1 := rest_spec na.sr s e
  have R2 := rest_spec nb.sr s e
  have B1 := both_spec na nb
  have B2 := either_spec na nb
  have l1 := rest_len a s e
  have l2 := rest_len b s e
  have l3 := both_len a b
  have l4 := either_len a b
  have oa : ∀ p ∈ a, p.1 ≤ p.2 := h.na.val
  have ob : ∀ p ∈ b, p.1 ≤ p.2 := h.nb.val
  have hse : s ≤ e := by have := h.s1; have := h.e0; omega
  have oab : ∀ p ∈ a ++ b, p.1 ≤ p.2 := fun p hp => (List.mem_append.mp hp).elim (oa p) (ob p)
  have oaa : ∀ p ∈ a ++ a, p.1 ≤ p.2 := fun p hp => (List.mem_append.mp hp).elim (oa p) (oa p)
  have fsp : ∀ q : Sp, (∀ p ∈ q, p.1 ≤ p.2) → ∀ r : Sp, Nm r → (∀ t, Inn r t ↔ s ≤ t ∧ t ≤ e ∧ ¬ Inn q t) → restF (sortP q) s e = r := fun q hq r hr hi => by
    have z := rest_spec (sr_sortP hq) s e
    refine nm_ext z.1 hr fun t => ?_
    rw [z.2, hi, inn_perm (sortP_perm q)]
  have cab : gAdd (.tuple (prs (a.map sh))) (.tuple (prs (b.map sh))) = some (.tp (prs ((a ++ b).map sh))) := by
    rw [gAdd_tuple (by rw [prs_len, prs_len, List.length_map, List.length_map]; omega), ← prs_app, List.map_append]
  have caa : gAdd (.tuple (prs (a.map sh))) (.tuple (prs (a.map sh))) = some (.tp (prs ((a ++ a).map sh))) := by
    rw [gAdd_tuple (by rw [prs_len, List.length_map]; omega), ← prs_app, List.map_append]
  have lab : (a ++ b).length ≤ 8 := by rw [List.length_append]; omega
  have laa : (a ++ a).length ≤ 8 := by rw [List.length_append]; omega
  
  have hs0 := h.s0
  have hs1 := h.s1
  have he1 := h.e1
  have he0 := h.e0
  have kA : okB a := ⟨by omega, oa⟩
  have kB : okB b := ⟨by omega, ob⟩
  have ra : restF (sortP a) s e = restF a s e := fsp a oa _ R1.1 R1.2
  have rb : restF (sortP b) s e = restF b s e := fsp b ob _ R2.1 R2.2
  have BO := both_spec R1.1 R2.1
  have y1 := both_spec nS R1.1
  have y2 := both_spec nS y1.1
  have y3 := both_spec nS R2.1
  have y4 := both_spec y2.1 y3.1
  have ct : bothF (bothF [(s, e)] (bothF [(s, e)] (restF a s e))) (bothF [(s, e)] (restF b s e)) = bothF (restF a s e) (restF b s e) := nm_ext y4.1 BO.1 fun t => by
    rw [y4.2, y3.2, y2.2, y1.2, BO.2, R1.2, R2.2, iS]
    constructor
    · rintro ⟨⟨_, _, x⟩, ⟨_, y⟩⟩
      exact ⟨x, y⟩
    · rintro ⟨x, y⟩
      exact ⟨⟨⟨x.1, x.2.1⟩, ⟨x.1, x.2.1⟩, x⟩, ⟨x.1, x.2.1⟩, y⟩
  
  have hI : ∀ t, Inn (bothF (restF a s e) (restF b s e)) t ↔ s ≤ t ∧ t ≤ e ∧ ¬ Inn (sortP (a ++ b)) t := fun t => by
    rw [BO.2, R1.2, R2.2, inn_perm (sortP_perm _), inn_append]
    constructor
    · rintro ⟨⟨x, y, z⟩, ⟨_, _, z'⟩⟩
      exact ⟨x, y, fun r => r.elim z z'⟩
    · rintro ⟨x, y, z⟩
      exact ⟨⟨x, y, fun r => z (.inl r)⟩, ⟨x, y, fun r => z (.inr r)⟩⟩
  have G := gp_spec n1 (sortP (a ++ b)) s (sr_sortP oab)
  have e1 := at_first_gap (ps := a ++ b) (k := s) (n := n) (by omega) oab
  unfold t_law_28
  cases hf : (bothF (restF a s e) (restF b s e)).find? (lng n) with
  | none =>
    have hno : ∀ u, s ≤ u → u + n - 1 ≤ e → ¬ Fr (Inn (sortP (a ++ b))) n u := fun u x y => find_none (lo := s) (hi := e) n1 BO.1 hI hf x y
    have hgt : ¬ gp n s (sortP (a ++ b)) + n - 1 ≤ e := fun hle => hno _ G.1 hle G.2.1
    have f1 : gNotN .none .none = some (.vl (.bool false)) := rfl
    have f2 : gIsN .none .none = some (.vl (.bool true)) := rfl
    repeat (first | walk_at "ev" | simp only [fst?, f1, f2, e1, cab, hgt])
  | some p =>
    have L := find_lst (lo := s) (hi := e) n1 BO.1 hI hf
    have hp := L.uniq G
    have hne : (!(gp n s (sortP (a ++ b)) == gp n s (sortP (a ++ b)))) = false := by simp
    have f1 : gNotN (.int p.1) .none = some (.vl (.bool true)) := rfl
    have f2 : gIsN (.int p.1) .none = some (.vl (.bool false)) := rfl
    rw [hp] at f1 f2
    simp only [fst?, hp]
    repeat (first | walk_at "ev" | simp only [f1, f2, e1, cab, hne])
end
end K80

namespace K80
open PySem PySem.Spec PyProof.Rows L2 DL

local macro_rules | `(tactic| walk_at "ev") => `(tactic| simp only [dVar_ap, dC_ap, dOp_ap, dNeg_ap, dTest_ap, dTruth_ap, hAnd_ap, hOr_ap, hNot_ap, hYes_ap, dAnd_ap, dOr_ap, dNot_ap, dIf_ap, dChain_ap, aNil_ap, aCons_ap, aVal_ap, aLend_ap, kNil_ap, kCons_ap, dCB_ap, dTup_ap, dLst_ap, dSl_ap, oNone_ap, oSome_ap, dMut_ap, dListScr_ap, dRgL_ap, twoI_ap, dLc_ap, dCallN_ap, dSkip_ap, dSeq_ap, dAsg_ap, dAsgG_ap, dExpr_ap, dRet_ap, dRetN_ap, dBrk_ap, dCnt_ap, dIfS_ap, dAug_ap, dSetI_ap, dFor_ap, dPar2_ap, dPar3_ap, iAny_ap, iRng1_ap, iRng2_ap, iZip_ap, gN_ap, gT_ap, gsNil_ap, gsCons_ap, forS_ap, retR_val, retR_new, retR_at, outs_nil, outs_val, List.map_cons, List.map_nil, List.cons_append, List.nil_append, List.reduceReplicate, Nat.reduceSub, Nat.reduceAdd, List.tail_cons, List.isEmpty_cons, List.isEmpty_nil, Bool.not_true, Bool.not_false,
  storeR_val, storeR_new, storeR_at, DL.settle_val, DL.settle_new, DL.settle_at, stab_val, stab_new, stab_at, dat_val, dat_new, dat_at, data_val, data_own, data_dic, keepS_val, keepS_new, keepS_at, dats_nil, dats_cons, vals_nil, vals_cons, ores_vl, ores_ls, ores_tp, ores_dc, argSl_nil, argSl_val, argSl_at, lentAt_nil, lentAt_val, lentAt_at, putBack_nil, putBack_val, tail_cons,
  gAdd_int, gSub_int, gLt_int, gLe_int, gGt_int, gGe_int, gEq_int, gNe_int, gIx_list, gIx_tuple, gLen_list, gLen_tuple, gMax2_int, gMin2_int, gInt_int, gInt_bool, gAbs_int, gList_list, gTuple_list, truD_list, truD_tuple, truD_bool, gRev_nil, gPopAt_zero, atI_zero, atI_one, atI_two, atI_last1, forL_nil,
  Option.bind_some, Option.bind_none, Option.join_some, List.getElem?_cons_zero, List.getElem?_cons_succ, List.set_cons_zero, List.set_cons_succ, List.length_cons, List.length_nil, ↓reduceIte, Bool.false_eq_true, gApp_if, aLast_ap, outs_ownA, outSl_own, outSl_scr, outs_scr, putBack_at, nodup_one, List.head?_cons, wipeE_nil, wipeE_cons, restE_nil, restE_cons, gSortedB_pairs, gSortedB_tuple, gSum_ints, gAll_bls, gAny_bls, Nat.reduceLeDiff, Nat.reduceLT, Int.reduceNeg, Nat.reduceMul, ne_snoc, set_snoc, DL.ixN_last, List.length_append, List.length_singleton, List.nodup_nil, true_and, and_true, decide_true, decide_false, Bool.and_true, Bool.and_false, Bool.true_and, Bool.false_and, Bool.or_true, Bool.or_false, Bool.true_or, Bool.false_or])
local macro_rules | `(tactic| walk_at "evs") => `(tactic| simp only [dVar_ap, dC_ap, dOp_ap, dNeg_ap, dTest_ap, dTruth_ap, hAnd_ap, hOr_ap, hNot_ap, hYes_ap, dAnd_ap, dOr_ap, dNot_ap, dIf_ap, dChain_ap, aNil_ap, aCons_ap, aVal_ap, aLend_ap, kNil_ap, kCons_ap, dCB_ap, dTup_ap, dLst_ap, dSl_ap, oNone_ap, oSome_ap, dMut_ap, dListScr_ap, dRgL_ap, twoI_ap, dLc_ap, dCallN_ap, dSkip_ap, dSeq_ap, dAsg_ap, dAsgG_ap, dExpr_ap, dRet_ap, dRetN_ap, dBrk_ap, dCnt_ap, dIfS_ap, dAug_ap, dSetI_ap, dFor_ap, dPar2_ap, dPar3_ap, iAny_ap, iRng1_ap, iRng2_ap, iZip_ap, gN_ap, gT_ap, gsNil_ap, gsCons_ap, forS_ap, retR_val, retR_new, retR_at, outs_nil, outs_val, List.map_cons, List.map_nil, List.cons_append, List.nil_append, List.reduceReplicate, Nat.reduceSub, Nat.reduceAdd, List.tail_cons, List.isEmpty_cons, List.isEmpty_nil, Bool.not_true, Bool.not_false,
  storeR_val, storeR_new, storeR_at, DL.settle_val, DL.settle_new, DL.settle_at, stab_val, stab_new, stab_at, dat_val, dat_new, dat_at, data_val, data_own, data_dic, keepS_val, keepS_new, keepS_at, dats_nil, dats_cons, vals_nil, vals_cons, ores_vl, ores_ls, ores_tp, ores_dc, argSl_nil, argSl_val, argSl_at, lentAt_nil, lentAt_val, lentAt_at, putBack_nil, putBack_val, tail_cons,
  gAdd_int, gSub_int, gLt_int, gLe_int, gGt_int, gGe_int, gEq_int, gNe_int, gIx_list, gIx_tuple, gLen_list, gLen_tuple, gMax2_int, gMin2_int, gInt_int, gInt_bool, gAbs_int, gList_list, gTuple_list, truD_list, truD_tuple, truD_bool, gRev_nil, gPopAt_zero, atI_zero, atI_one, atI_two, atI_last1, forL_nil,
  Option.bind_some, Option.bind_none, Option.join_some, List.getElem?_cons_zero, List.getElem?_cons_succ, List.set_cons_zero, List.set_cons_succ, List.length_cons, List.length_nil, ↓reduceIte, Bool.false_eq_true, gApp_if, aLast_ap, outs_ownA, outSl_own, outSl_scr, outs_scr, putBack_at, nodup_one, List.head?_cons, wipeE_nil, wipeE_cons, restE_nil, restE_cons, gSortedB_pairs, gSortedB_tuple, gSum_ints, gAll_bls, gAny_bls, Nat.reduceLeDiff, Nat.reduceLT, Int.reduceNeg, Nat.reduceMul, ne_snoc, set_snoc, DL.ixN_last, List.length_append, List.length_singleton, List.nodup_nil, true_and, and_true, decide_true, decide_false, Bool.and_true, Bool.and_false, Bool.true_and, Bool.false_and, Bool.or_true, Bool.or_false, Bool.true_or, Bool.false_or, *])
/-- what stands in the law's slots between the turns -/
def Sh (ns : List Int) (ρ : DL.Env) : Prop := ∃ (is : List Int) (f : Nat → Option Sl), ρ = [some (.scr ns), some (.own false (inz is)), f 2, f 3, f 4, f 5, f 6, f 7, f 8, f 9, f 10, f 11, f 12, f 13, f 14, f 15, f 16, f 17, f 18, f 19, f 20, f 21, f 22, f 23, f 24, none, none] ∧ (f 22 = none ∨ ∃ t, f 22 = some (.val (.int t)))
theorem law_turn {ns : List Int} {ρ : DL.Env} (h : Sh ns ρ) : ∃ ρ', l_law_29 ρ = some (.nx, ρ') ∧ Sh ns ρ' := by
  obtain ⟨is, f, rfl, h22⟩ := h
  rcases h22 with h22 | ⟨t22, h22⟩
  · rw [h22]
    obtain ⟨is1, a, b, c, e7, hD⟩ := tl7 (v0 := some (.scr ns)) (v2 := f 2) (v3 := f 3) (v4 := f 4) (v5 := f 5) (v6 := f 6) (v7 := f 7) (v8 := f 8) (v9 := f 9) (v10 := f 10) (v11 := f 11) (v12 := f 12) (v13 := f 13) (v14 := f 14) (v15 := f 15) (v16 := f 16) (v17 := f 17) (v18 := f 18) (v19 := f 19) (v20 := f 20) (v21 := f 21) (v22 := none) (v23 := f 23) (v24 := f 24) (is := is)
    obtain ⟨is2, s, e, e8, s0, s1, e0, e1⟩ := tl8 (v0 := some (.scr ns)) (v2 := f 2) (v3 := f 3) (v4 := f 4) (v5 := f 5) (v6 := f 6) (v7 := f 7) (v8 := f 8) (v9 := f 9) (v13 := f 13) (v14 := f 14) (v15 := f 15) (v16 := f 16) (v17 := f 17) (v18 := f 18) (v19 := f 19) (v20 := f 20) (v21 := f 21) (v22 := none) (v23 := f 23) (v24 := f 24) (is := is1) (a := a) (b := b) (c := c)
    have h := hD s e s0 s1 e0 e1
    obtain ⟨is3, n, k, e20, n1, n2, k1, k2⟩ := tl20 (v0 := some (.scr ns)) (v2 := f 2) (v3 := some (.val (.list (prs (bothF (restF a s e) (restF b s e)))))) (v6 := f 6) (v7 := f 7) (v8 := f 8) (v9 := f 9) (v21 := f 21) (v22 := none) (v23 := f 23) (v24 := f 24) (is := is2) h
    have eL : l_law_29 [some (.scr ns), some (.own false (inz is)), f 2, f 3, f 4, f 5, f 6, f 7, f 8, f 9, f 10, f 11, f 12, f 13, f 14, f 15, f 16, f 17, f 18, f 19, f 20, f 21, none, f 23, f 24, none, none] = some (.nx, [some (.scr ns), some (.own false (inz is3)), f 2, some (.val (.list (prs (bothF (restF a s e) (restF b s e))))), some (.val (.list (prs ([(s, e)])))), some (.own false (prs (restF a s e))), some (.val (.int (gp n k (sortP (a ++ b))))), some (.own false (inz (((restF (eitherF a b) k 300).filter fun p => decide (n ≤ p.2 - mx p.1 k + 1)).map fun p => mx p.1 k))), some (.val (pns a b)), some (.val (fst? ((bothF (restF a s e) (restF b s e)).find? (lng n)))), some (.val (.list (prs (a)))), some (.val (.list (prs (b)))), some (.val (.list (prs (c)))), some (.val (.int s)), some (.val (.int e)), some (.val (.list (prs (restF a s e)))), some (.val (.list (prs (restF b s e)))), some (.val (.list (inz (tk a)))), some (.val (.list (inz (tk b)))), some (.val (.tuple (prs (a.map sh)))), some (.val (.tuple (prs (b.map sh)))), some (.val (.int n)), some (.val (.int k)), some (.val (z1)), some (.val (wk)), none, none]) := by
      unfold l_law_29
      rw [dSeq_nx e7, dSeq_nx e8, dSeq_nx (tl9 h), dSeq_nx (tl10 h), dSeq_nx (tl11 h), dSeq_nx (tl12n (t22 := 0) h), dSeq_nx (tl13 h), dSeq_nx (tl14 h), dSeq_nx (tl15 h), dSeq_nx (tl16 h), dSeq_nx (tl17 h), dSeq_nx (tl18 h), dSeq_nx (tl19 h), dSeq_nx e20, dSeq_nx (tl21 h n1 n2 k1 k2), dSeq_nx (tl22 h n1 n2 k1 k2), dSeq_nx (tl23 h n1 n2 k1 k2), dSeq_nx (tl24 h n1 n2 k1 k2), dSeq_nx (tl25 h n1 n2 k1 k2), dSeq_nx (tl26 h n1 n2 k1 k2), dSeq_nx (tl27 h n1 n2 k1 k2)]
      exact tl28 h n1 n2 k1 k2
    exact ⟨_, eL, is3, fun i => (([some (.scr ns), some (.own false (inz is3)), f 2, some (.val (.list (prs (bothF (restF a s e) (restF b s e))))), some (.val (.list (prs ([(s, e)])))), some (.own false (prs (restF a s e))), some (.val (.int (gp n k (sortP (a ++ b))))), some (.own false (inz (((restF (eitherF a b) k 300).filter fun p => decide (n ≤ p.2 - mx p.1 k + 1)).map fun p => mx p.1 k))), some (.val (pns a b)), some (.val (fst? ((bothF (restF a s e) (restF b s e)).find? (lng n)))), some (.val (.list (prs (a)))), some (.val (.list (prs (b)))), some (.val (.list (prs (c)))), some (.val (.int s)), some (.val (.int e)), some (.val (.list (prs (restF a s e)))), some (.val (.list (prs (restF b s e)))), some (.val (.list (inz (tk a)))), some (.val (.list (inz (tk b)))), some (.val (.tuple (prs (a.map sh)))), some (.val (.tuple (prs (b.map sh)))), some (.val (.int n)), some (.val (.int k)), some (.val (z1)), some (.val (wk)), none, none] : DL.Env)[i]?).join, rfl, .inr ⟨k, rfl⟩⟩
  · rw [h22]
    obtain ⟨is1, a, b, c, e7, hD⟩ := tl7 (v0 := some (.scr ns)) (v2 := f 2) (v3 := f 3) (v4 := f 4) (v5 := f 5) (v6 := f 6) (v7 := f 7) (v8 := f 8) (v9 := f 9) (v10 := f 10) (v11 := f 11) (v12 := f 12) (v13 := f 13) (v14 := f 14) (v15 := f 15) (v16 := f 16) (v17 := f 17) (v18 := f 18) (v19 := f 19) (v20 := f 20) (v21 := f 21) (v22 := some (.val (.int t22))) (v23 := f 23) (v24 := f 24) (is := is)
    obtain ⟨is2, s, e, e8, s0, s1, e0, e1⟩ := tl8 (v0 := some (.scr ns)) (v2 := f 2) (v3 := f 3) (v4 := f 4) (v5 := f 5) (v6 := f 6) (v7 := f 7) (v8 := f 8) (v9 := f 9) (v13 := f 13) (v14 := f 14) (v15 := f 15) (v16 := f 16) (v17 := f 17) (v18 := f 18) (v19 := f 19) (v20 := f 20) (v21 := f 21) (v22 := some (.val (.int t22))) (v23 := f 23) (v24 := f 24) (is := is1) (a := a) (b := b) (c := c)
    have h := hD s e s0 s1 e0 e1
    obtain ⟨is3, n, k, e20, n1, n2, k1, k2⟩ := tl20 (v0 := some (.scr ns)) (v2 := f 2) (v3 := some (.val (.list (prs (bothF (restF a s e) (restF b s e)))))) (v6 := f 6) (v7 := f 7) (v8 := f 8) (v9 := f 9) (v21 := f 21) (v22 := some (.val (.int t22))) (v23 := f 23) (v24 := f 24) (is := is2) h
    have eL : l_law_29 [some (.scr ns), some (.own false (inz is)), f 2, f 3, f 4, f 5, f 6, f 7, f 8, f 9, f 10, f 11, f 12, f 13, f 14, f 15, f 16, f 17, f 18, f 19, f 20, f 21, some (.val (.int t22)), f 23, f 24, none, none] = some (.nx, [some (.scr ns), some (.own false (inz is3)), f 2, some (.val (.list (prs (bothF (restF a s e) (restF b s e))))), some (.val (.list (prs ([(s, e)])))), some (.own false (prs (restF a s e))), some (.val (.int (gp n k (sortP (a ++ b))))), some (.own false (inz (((restF (eitherF a b) k 300).filter fun p => decide (n ≤ p.2 - mx p.1 k + 1)).map fun p => mx p.1 k))), some (.val (pns a b)), some (.val (fst? ((bothF (restF a s e) (restF b s e)).find? (lng n)))), some (.val (.list (prs (a)))), some (.val (.list (prs (b)))), some (.val (.list (prs (c)))), some (.val (.int s)), some (.val (.int e)), some (.val (.list (prs (restF a s e)))), some (.val (.list (prs (restF b s e)))), some (.val (.list (inz (tk a)))), some (.val (.list (inz (tk b)))), some (.val (.tuple (prs (a.map sh)))), some (.val (.tuple (prs (b.map sh)))), some (.val (.int n)), some (.val (.int k)), some (.val (z1)), some (.val (wk)), none, none]) := by
      unfold l_law_29
      rw [dSeq_nx e7, dSeq_nx e8, dSeq_nx (tl9 h), dSeq_nx (tl10 h), dSeq_nx (tl11 h), dSeq_nx (tl12i (t22 := t22) h), dSeq_nx (tl13 h), dSeq_nx (tl14 h), dSeq_nx (tl15 h), dSeq_nx (tl16 h), dSeq_nx (tl17 h), dSeq_nx (tl18 h), dSeq_nx (tl19 h), dSeq_nx e20, dSeq_nx (tl21 h n1 n2 k1 k2), dSeq_nx (tl22 h n1 n2 k1 k2), dSeq_nx (tl23 h n1 n2 k1 k2), dSeq_nx (tl24 h n1 n2 k1 k2), dSeq_nx (tl25 h n1 n2 k1 k2), dSeq_nx (tl26 h n1 n2 k1 k2), dSeq_nx (tl27 h n1 n2 k1 k2)]
      exact tl28 h n1 n2 k1 k2
    exact ⟨_, eL, is3, fun i => (([some (.scr ns), some (.own false (inz is3)), f 2, some (.val (.list (prs (bothF (restF a s e) (restF b s e))))), some (.val (.list (prs ([(s, e)])))), some (.own false (prs (restF a s e))), some (.val (.int (gp n k (sortP (a ++ b))))), some (.own false (inz (((restF (eitherF a b) k 300).filter fun p => decide (n ≤ p.2 - mx p.1 k + 1)).map fun p => mx p.1 k))), some (.val (pns a b)), some (.val (fst? ((bothF (restF a s e) (restF b s e)).find? (lng n)))), some (.val (.list (prs (a)))), some (.val (.list (prs (b)))), some (.val (.list (prs (c)))), some (.val (.int s)), some (.val (.int e)), some (.val (.list (prs (restF a s e)))), some (.val (.list (prs (restF b s e)))), some (.val (.list (inz (tk a)))), some (.val (.list (inz (tk b)))), some (.val (.tuple (prs (a.map sh)))), some (.val (.tuple (prs (b.map sh)))), some (.val (.int n)), some (.val (.int k)), some (.val (z1)), some (.val (wk)), none, none] : DL.Env)[i]?).join, rfl, .inr ⟨k, rfl⟩⟩
theorem law_loop {ns : List Int} : ∀ (n : Nat) (k : Int) (ρ : DL.Env), Sh ns ρ → ∃ ρ', forL g_law_29 l_law_29 (rangeD k n) ρ = some (.nx, ρ') ∧ Sh ns ρ'
  | 0, k, ρ, h => ⟨ρ, rfl, h⟩
  | n + 1, k, ρ, h => by
    obtain ⟨is, f, rfl, h22⟩ := h
    have h1 : Sh ns [some (.scr ns), some (.own false (inz is)), some (.val (.int k)), f 3, f 4, f 5, f 6, f 7, f 8, f 9, f 10, f 11, f 12, f 13, f 14, f 15, f 16, f 17, f 18, f 19, f 20, f 21, f 22, f 23, f 24, none, none] := ⟨is, fun i => if i = 2 then some (.val (.int k)) else f i, rfl, h22⟩
    obtain ⟨ρ', e, h2⟩ := law_turn h1
    obtain ⟨ρ'', e2, h3⟩ := law_loop n (k + 1) ρ' h2
    refine ⟨ρ'', ?_, h3⟩
    rw [rangeD_succ, forL_nx (ρ' := ρ') (by rw [← e]; rfl), e2]
theorem at_law {ns : List Int} : callF b_law 27 [.scr ns] = some (.val (.bool true), [none]) := by
  obtain ⟨is, e⟩ := at_draws (ns := ns)
  have h0 : Sh ns [some (.scr ns), some (.own false (inz is)), none, none, none, none, none, none, none, none, none, none, none, none, none, none, none, none, none, none, none, none, none, none, none, none, none] := ⟨is, fun _ => none, rfl, .inl rfl⟩
  obtain ⟨ρ', e2, is', f, rfl, h2⟩ := law_loop 4 0 _ h0
  have e4 : (4 : Int).toNat = 4 := rfl
  rw [callF_ap]
  unfold b_law
  repeat (first | walk_at "ev" | simp only [e, Int.reducePow, Int.reduceNeg, Int.reduceLE, Int.reduceLT, and_self, e4] | rw [e2])
def spLaw (K : PySem.W.Frag) : L2.Sp := fun vs H Q _ => ∃ (a : Addr) (ns : List Int), vs = [.ref a] ∧ SqL K H a (ns.map V.int) ∧ ns.length ≤ 63 ∧ ∀ H', Q (.bl true) H'
theorem law_ok {P : Program} {w : World} {K : PySem.W.Frag} {mg : Str → Option Value} {base : Heap} {k : Nat} {f : Addr} {fd : FuncData} (h : FnOk P w K mg base CX0 k f fd ["script"] (spL K b_law 27 1)) : FnOk P w K mg base CX0 k f fd ["script"] (spLaw K) :=
  FnOk.imp h fun vs H Q E q => by
    obtain ⟨a, ns, rfl, hs, hl, hq⟩ := q
    refine ⟨⟨fun _ => none, fun _ => 0⟩, H, [.scr ns], .val (.bool true), [none], ⟨Same.refl H, (fun a o z => by cases z), rfl, fun i s e => ?_, fun i j b hij hi hj _ => ?_⟩, fun j s e hm => ?_, rfl, at_law, fun v H' B' _ _ hv => ?_⟩
    · match i, e with
      | 0, e =>
        have e : some (some (Sl.scr ns)) = some (some s) := e
        cases e
        exact ⟨.ref a, rfl, ⟨a, rfl, hs⟩, fun z => by cases z⟩
      | i + 1, e => exact absurd e (by simp)
    · obtain ⟨s, e, hm⟩ := hi
      match i, e with
      | 0, e =>
        have e : some (some (Sl.scr ns)) = some (some s) := e
        cases e
        cases hm
      | i + 1, e => exact absurd e (by simp)
    · match j, e with
      | 0, e =>
        have e : some (Sl.scr ns) = some s := e
        cases e
        cases hm
      | i + 1, e => exact absurd e (by simp)
    · have hv : Rp B' v (.bool true) := hv
      cases hv
      exact hq H'
end K80

namespace K80
open PySem PySem.Spec PyProof.Rows L2 DL

theorem all_mk {l : PySem.W.OpenLaw} {w : World} {K : PySem.W.Frag} {h : Heap} {mg : Str → Option Value} {fa : Addr} (X : K.In h) (G : h.Ns mainGlobals mg) (hfa : mg "law" = some (.ref fa))
    {f0 : Addr} {od0 an0 : Option Addr} {sl0 : Array (Option Value)} {oc0 kV0 dc0 pm0 cd0 ct0 : Value}
    (a0 : PySem.W.nsIn K mainGlobals "_law_draws" = some (some (.ref f0))) (l0 : K.lookup f0 = some ⟨oc0, od0, .func (PySem.W.fnOf "_law_draws" "_law_draws" (defArgs s__law_draws) (defBody s__law_draws) (defScope s__law_draws) .none kV0 dc0 pm0 an0 cd0 ct0), sl0⟩) (c0 : PySem.W.codeIn K cd0 "_law_draws" = true) (k0 : PySem.W.keepIn K (.ref f0) = true)
    {f1 : Addr} {od1 an1 : Option Addr} {sl1 : Array (Option Value)} {oc1 kV1 dc1 pm1 cd1 ct1 : Value}
    (a1 : PySem.W.nsIn K mainGlobals "check_bookings" = some (some (.ref f1))) (l1 : K.lookup f1 = some ⟨oc1, od1, .func (PySem.W.fnOf "check_bookings" "check_bookings" (defArgs s_check_bookings) (defBody s_check_bookings) (defScope s_check_bookings) .none kV1 dc1 pm1 an1 cd1 ct1), sl1⟩) (c1 : PySem.W.codeIn K cd1 "check_bookings" = true) (k1 : PySem.W.keepIn K (.ref f1) = true)
    {f2 : Addr} {od2 an2 : Option Addr} {sl2 : Array (Option Value)} {oc2 kV2 dc2 pm2 cd2 ct2 : Value}
    (a2 : PySem.W.nsIn K mainGlobals "free_spells" = some (some (.ref f2))) (l2 : K.lookup f2 = some ⟨oc2, od2, .func (PySem.W.fnOf "free_spells" "free_spells" (defArgs s_free_spells) (defBody s_free_spells) (defScope s_free_spells) .none kV2 dc2 pm2 an2 cd2 ct2), sl2⟩) (c2 : PySem.W.codeIn K cd2 "free_spells" = true) (k2 : PySem.W.keepIn K (.ref f2) = true)
    {f3 : Addr} {od3 an3 : Option Addr} {sl3 : Array (Option Value)} {oc3 kV3 dc3 pm3 cd3 ct3 : Value}
    (a3 : PySem.W.nsIn K mainGlobals "length" = some (some (.ref f3))) (l3 : K.lookup f3 = some ⟨oc3, od3, .func (PySem.W.fnOf "length" "length" (defArgs s_length) (defBody s_length) (defScope s_length) .none kV3 dc3 pm3 an3 cd3 ct3), sl3⟩) (c3 : PySem.W.codeIn K cd3 "length" = true) (k3 : PySem.W.keepIn K (.ref f3) = true)
    {f4 : Addr} {od4 an4 : Option Addr} {sl4 : Array (Option Value)} {oc4 kV4 dc4 pm4 cd4 ct4 : Value}
    (a4 : PySem.W.nsIn K mainGlobals "first_gap" = some (some (.ref f4))) (l4 : K.lookup f4 = some ⟨oc4, od4, .func (PySem.W.fnOf "first_gap" "first_gap" (defArgs s_first_gap) (defBody s_first_gap) (defScope s_first_gap) .none kV4 dc4 pm4 an4 cd4 ct4), sl4⟩) (c4 : PySem.W.codeIn K cd4 "first_gap" = true) (k4 : PySem.W.keepIn K (.ref f4) = true)
    {f5 : Addr} {od5 an5 : Option Addr} {sl5 : Array (Option Value)} {oc5 kV5 dc5 pm5 cd5 ct5 : Value}
    (a5 : PySem.W.nsIn K mainGlobals "check_zone" = some (some (.ref f5))) (l5 : K.lookup f5 = some ⟨oc5, od5, .func (PySem.W.fnOf "check_zone" "check_zone" (defArgs s_check_zone) (defBody s_check_zone) (defScope s_check_zone) .none kV5 dc5 pm5 an5 cd5 ct5), sl5⟩) (c5 : PySem.W.codeIn K cd5 "check_zone" = true) (k5 : PySem.W.keepIn K (.ref f5) = true)
    {f6 : Addr} {od6 an6 : Option Addr} {sl6 : Array (Option Value)} {oc6 kV6 dc6 pm6 cd6 ct6 : Value}
    (a6 : PySem.W.nsIn K mainGlobals "check_persons" = some (some (.ref f6))) (l6 : K.lookup f6 = some ⟨oc6, od6, .func (PySem.W.fnOf "check_persons" "check_persons" (defArgs s_check_persons) (defBody s_check_persons) (defScope s_check_persons) .none kV6 dc6 pm6 an6 cd6 ct6), sl6⟩) (c6 : PySem.W.codeIn K cd6 "check_persons" = true) (k6 : PySem.W.keepIn K (.ref f6) = true)
    {f7 : Addr} {od7 an7 : Option Addr} {sl7 : Array (Option Value)} {oc7 kV7 dc7 pm7 cd7 ct7 : Value}
    (a7 : PySem.W.nsIn K mainGlobals "joined" = some (some (.ref f7))) (l7 : K.lookup f7 = some ⟨oc7, od7, .func (PySem.W.fnOf "joined" "joined" (defArgs s_joined) (defBody s_joined) (defScope s_joined) .none kV7 dc7 pm7 an7 cd7 ct7), sl7⟩) (c7 : PySem.W.codeIn K cd7 "joined" = true) (k7 : PySem.W.keepIn K (.ref f7) = true)
    {f8 : Addr} {od8 an8 : Option Addr} {sl8 : Array (Option Value)} {oc8 kV8 dc8 pm8 cd8 ct8 : Value}
    (a8 : PySem.W.nsIn K mainGlobals "both" = some (some (.ref f8))) (l8 : K.lookup f8 = some ⟨oc8, od8, .func (PySem.W.fnOf "both" "both" (defArgs s_both) (defBody s_both) (defScope s_both) .none kV8 dc8 pm8 an8 cd8 ct8), sl8⟩) (c8 : PySem.W.codeIn K cd8 "both" = true) (k8 : PySem.W.keepIn K (.ref f8) = true)
    {f9 : Addr} {od9 an9 : Option Addr} {sl9 : Array (Option Value)} {oc9 kV9 dc9 pm9 cd9 ct9 : Value}
    (a9 : PySem.W.nsIn K mainGlobals "is_open_minute" = some (some (.ref f9))) (l9 : K.lookup f9 = some ⟨oc9, od9, .func (PySem.W.fnOf "is_open_minute" "is_open_minute" (defArgs s_is_open_minute) (defBody s_is_open_minute) (defScope s_is_open_minute) .none kV9 dc9 pm9 an9 cd9 ct9), sl9⟩) (c9 : PySem.W.codeIn K cd9 "is_open_minute" = true) (k9 : PySem.W.keepIn K (.ref f9) = true)
    {f10 : Addr} {od10 an10 : Option Addr} {sl10 : Array (Option Value)} {oc10 kV10 dc10 pm10 cd10 ct10 : Value}
    (a10 : PySem.W.nsIn K mainGlobals "is_open" = some (some (.ref f10))) (l10 : K.lookup f10 = some ⟨oc10, od10, .func (PySem.W.fnOf "is_open" "is_open" (defArgs s_is_open) (defBody s_is_open) (defScope s_is_open) .none kV10 dc10 pm10 an10 cd10 ct10), sl10⟩) (c10 : PySem.W.codeIn K cd10 "is_open" = true) (k10 : PySem.W.keepIn K (.ref f10) = true)
    {f11 : Addr} {od11 an11 : Option Addr} {sl11 : Array (Option Value)} {oc11 kV11 dc11 pm11 cd11 ct11 : Value}
    (a11 : PySem.W.nsIn K mainGlobals "offset_at" = some (some (.ref f11))) (l11 : K.lookup f11 = some ⟨oc11, od11, .func (PySem.W.fnOf "offset_at" "offset_at" (defArgs s_offset_at) (defBody s_offset_at) (defScope s_offset_at) .none kV11 dc11 pm11 an11 cd11 ct11), sl11⟩) (c11 : PySem.W.codeIn K cd11 "offset_at" = true) (k11 : PySem.W.keepIn K (.ref f11) = true)
    {f12 : Addr} {od12 an12 : Option Addr} {sl12 : Array (Option Value)} {oc12 kV12 dc12 pm12 cd12 ct12 : Value}
    (a12 : PySem.W.nsIn K mainGlobals "local" = some (some (.ref f12))) (l12 : K.lookup f12 = some ⟨oc12, od12, .func (PySem.W.fnOf "local" "local" (defArgs s_local) (defBody s_local) (defScope s_local) .none kV12 dc12 pm12 an12 cd12 ct12), sl12⟩) (c12 : PySem.W.codeIn K cd12 "local" = true) (k12 : PySem.W.keepIn K (.ref f12) = true)
    {f13 : Addr} {od13 an13 : Option Addr} {sl13 : Array (Option Value)} {oc13 kV13 dc13 pm13 cd13 ct13 : Value}
    (a13 : PySem.W.nsIn K mainGlobals "next_edge" = some (some (.ref f13))) (l13 : K.lookup f13 = some ⟨oc13, od13, .func (PySem.W.fnOf "next_edge" "next_edge" (defArgs s_next_edge) (defBody s_next_edge) (defScope s_next_edge) .none kV13 dc13 pm13 an13 cd13 ct13), sl13⟩) (c13 : PySem.W.codeIn K cd13 "next_edge" = true) (k13 : PySem.W.keepIn K (.ref f13) = true)
    {f14 : Addr} {od14 an14 : Option Addr} {sl14 : Array (Option Value)} {oc14 kV14 dc14 pm14 cd14 ct14 : Value}
    (a14 : PySem.W.nsIn K mainGlobals "next_turn" = some (some (.ref f14))) (l14 : K.lookup f14 = some ⟨oc14, od14, .func (PySem.W.fnOf "next_turn" "next_turn" (defArgs s_next_turn) (defBody s_next_turn) (defScope s_next_turn) .none kV14 dc14 pm14 an14 cd14 ct14), sl14⟩) (c14 : PySem.W.codeIn K cd14 "next_turn" = true) (k14 : PySem.W.keepIn K (.ref f14) = true)
    {f15 : Addr} {od15 an15 : Option Addr} {sl15 : Array (Option Value)} {oc15 kV15 dc15 pm15 cd15 ct15 : Value}
    (a15 : PySem.W.nsIn K mainGlobals "open_spells" = some (some (.ref f15))) (l15 : K.lookup f15 = some ⟨oc15, od15, .func (PySem.W.fnOf "open_spells" "open_spells" (defArgs s_open_spells) (defBody s_open_spells) (defScope s_open_spells) .none kV15 dc15 pm15 an15 cd15 ct15), sl15⟩) (c15 : PySem.W.codeIn K cd15 "open_spells" = true) (k15 : PySem.W.keepIn K (.ref f15) = true)
    {f16 : Addr} {od16 an16 : Option Addr} {sl16 : Array (Option Value)} {oc16 kV16 dc16 pm16 cd16 ct16 : Value}
    (a16 : PySem.W.nsIn K mainGlobals "common_times" = some (some (.ref f16))) (l16 : K.lookup f16 = some ⟨oc16, od16, .func (PySem.W.fnOf "common_times" "common_times" (defArgs s_common_times) (defBody s_common_times) (defScope s_common_times) .none kV16 dc16 pm16 an16 cd16 ct16), sl16⟩) (c16 : PySem.W.codeIn K cd16 "common_times" = true) (k16 : PySem.W.keepIn K (.ref f16) = true)
    {f17 : Addr} {od17 an17 : Option Addr} {sl17 : Array (Option Value)} {oc17 kV17 dc17 pm17 cd17 ct17 : Value}
    (a17 : PySem.W.nsIn K mainGlobals "first_common" = some (some (.ref f17))) (l17 : K.lookup f17 = some ⟨oc17, od17, .func (PySem.W.fnOf "first_common" "first_common" (defArgs s_first_common) (defBody s_first_common) (defScope s_first_common) .none kV17 dc17 pm17 an17 cd17 ct17), sl17⟩) (c17 : PySem.W.codeIn K cd17 "first_common" = true) (k17 : PySem.W.keepIn K (.ref f17) = true)
    {f18 : Addr} {od18 an18 : Option Addr} {sl18 : Array (Option Value)} {oc18 kV18 dc18 pm18 cd18 ct18 : Value}
    (a18 : PySem.W.nsIn K mainGlobals "_law_take" = some (some (.ref f18))) (l18 : K.lookup f18 = some ⟨oc18, od18, .func (PySem.W.fnOf "_law_take" "_law_take" (defArgs s__law_take) (defBody s__law_take) (defScope s__law_take) .none kV18 dc18 pm18 an18 cd18 ct18), sl18⟩) (c18 : PySem.W.codeIn K cd18 "_law_take" = true) (k18 : PySem.W.keepIn K (.ref f18) = true)
    {f19 : Addr} {od19 an19 : Option Addr} {sl19 : Array (Option Value)} {oc19 kV19 dc19 pm19 cd19 ct19 : Value}
    (a19 : PySem.W.nsIn K mainGlobals "_law_spells" = some (some (.ref f19))) (l19 : K.lookup f19 = some ⟨oc19, od19, .func (PySem.W.fnOf "_law_spells" "_law_spells" (defArgs s__law_spells) (defBody s__law_spells) (defScope s__law_spells) .none kV19 dc19 pm19 an19 cd19 ct19), sl19⟩) (c19 : PySem.W.codeIn K cd19 "_law_spells" = true) (k19 : PySem.W.keepIn K (.ref f19) = true)
    {f20 : Addr} {od20 an20 : Option Addr} {sl20 : Array (Option Value)} {oc20 kV20 dc20 pm20 cd20 ct20 : Value}
    (a20 : PySem.W.nsIn K mainGlobals "rest" = some (some (.ref f20))) (l20 : K.lookup f20 = some ⟨oc20, od20, .func (PySem.W.fnOf "rest" "rest" (defArgs s_rest) (defBody s_rest) (defScope s_rest) .none kV20 dc20 pm20 an20 cd20 ct20), sl20⟩) (c20 : PySem.W.codeIn K cd20 "rest" = true) (k20 : PySem.W.keepIn K (.ref f20) = true)
    {f21 : Addr} {od21 an21 : Option Addr} {sl21 : Array (Option Value)} {oc21 kV21 dc21 pm21 cd21 ct21 : Value}
    (a21 : PySem.W.nsIn K mainGlobals "either" = some (some (.ref f21))) (l21 : K.lookup f21 = some ⟨oc21, od21, .func (PySem.W.fnOf "either" "either" (defArgs s_either) (defBody s_either) (defScope s_either) .none kV21 dc21 pm21 an21 cd21 ct21), sl21⟩) (c21 : PySem.W.codeIn K cd21 "either" = true) (k21 : PySem.W.keepIn K (.ref f21) = true)
    {f22 : Addr} {od22 an22 : Option Addr} {sl22 : Array (Option Value)} {oc22 kV22 dc22 pm22 cd22 ct22 : Value}
    (a22 : PySem.W.nsIn K mainGlobals "_law_ticks" = some (some (.ref f22))) (l22 : K.lookup f22 = some ⟨oc22, od22, .func (PySem.W.fnOf "_law_ticks" "_law_ticks" (defArgs s__law_ticks) (defBody s__law_ticks) (defScope s__law_ticks) .none kV22 dc22 pm22 an22 cd22 ct22), sl22⟩) (c22 : PySem.W.codeIn K cd22 "_law_ticks" = true) (k22 : PySem.W.keepIn K (.ref f22) = true)
    {f23 : Addr} {od23 an23 : Option Addr} {sl23 : Array (Option Value)} {oc23 kV23 dc23 pm23 cd23 ct23 : Value}
    (a23 : PySem.W.nsIn K mainGlobals "_law_is_right" = some (some (.ref f23))) (l23 : K.lookup f23 = some ⟨oc23, od23, .func (PySem.W.fnOf "_law_is_right" "_law_is_right" (defArgs s__law_is_right) (defBody s__law_is_right) (defScope s__law_is_right) .none kV23 dc23 pm23 an23 cd23 ct23), sl23⟩) (c23 : PySem.W.codeIn K cd23 "_law_is_right" = true) (k23 : PySem.W.keepIn K (.ref f23) = true)
    {f24 : Addr} {od24 an24 : Option Addr} {sl24 : Array (Option Value)} {oc24 kV24 dc24 pm24 cd24 ct24 : Value}
    (a24 : PySem.W.nsIn K mainGlobals "law" = some (some (.ref f24))) (l24 : K.lookup f24 = some ⟨oc24, od24, .func (PySem.W.fnOf "law" "law" (defArgs s_law) (defBody s_law) (defScope s_law) .none kV24 dc24 pm24 an24 cd24 ct24), sl24⟩) (c24 : PySem.W.codeIn K cd24 "law" = true) (k24 : PySem.W.keepIn K (.ref f24) = true)
    (z0 : PySem.W.nsIn K mainGlobals "list" = some none)
    (z1 : PySem.W.nsIn K mainGlobals "len" = some none)
    (z2 : PySem.W.nsIn K mainGlobals "range" = some none)
    (z3 : PySem.W.nsIn K mainGlobals "int" = some none)
    (z4 : PySem.W.nsIn K mainGlobals "all" = some none)
    (z5 : PySem.W.nsIn K mainGlobals "sorted" = some none)
    (z6 : PySem.W.nsIn K mainGlobals "min" = some none)
    (z7 : PySem.W.nsIn K mainGlobals "max" = some none)
    (z8 : PySem.W.nsIn K mainGlobals "sum" = some none)
    (z9 : PySem.W.nsIn K mainGlobals "abs" = some none)
    (z10 : PySem.W.nsIn K mainGlobals "zip" = some none)
    (z11 : PySem.W.nsIn K mainGlobals "any" = some none)
    (z12 : PySem.W.nsIn K mainGlobals "dict" = some none)
    (z13 : PySem.W.nsIn K mainGlobals "tuple" = some none)
    {t0 : Tok} (y0 : PySem.W.nsIn K mainGlobals "MOST" = some (some (.int 200 t0)))
    {t1 : Tok} (y1 : PySem.W.nsIn K mainGlobals "MOST_CHANGES" = some (some (.int 400 t1)))
    {t2 : Tok} (y2 : PySem.W.nsIn K mainGlobals "FARTHEST_zones" = some (some (.int 1500 t2)))
    {t3 : Tok} (y3 : PySem.W.nsIn K mainGlobals "MOST_PERSONS" = some (some (.int 8 t3)))
    {t4 : Tok} (y4 : PySem.W.nsIn K mainGlobals "LONGEST_SPAN" = some (some (.int 20160 t4)))
    {t5 : Tok} (y5 : PySem.W.nsIn K mainGlobals "DAY" = some (some (.int 1440 t5)))
    {t6 : Tok} (y6 : PySem.W.nsIn K mainGlobals "FIRST_MONDAY" = some (some (.int 1440 t6)))
    {t7 : Tok} (y7 : PySem.W.nsIn K mainGlobals "WEEK" = some (some (.int 10080 t7)))
    {t8 : Tok} (y8 : PySem.W.nsIn K mainGlobals "FARTHEST_hours" = some (some (.int 20000 t8)))
    : ∃ fd : FuncData, (∀ (s : Shared) (v : Value), BindsTo s fd ⟨[v], []⟩ [("script", v)]) ∧ ∀ base : Heap, K.In base → base.Ns mainGlobals mg → FnOk l.prog w K mg base CX0 7 fa fd ["script"] (spLaw K) := by
  have e := hfa.symm.trans (PySem.W.mg_of X G a24)
  cases e
  have F0 := fun_mk (st := s__law_draws) l0 c0 k0
  have F1 := fun_mk (st := s_check_bookings) l1 c1 k1
  have F2 := fun_mk (st := s_free_spells) l2 c2 k2
  have F3 := fun_mk (st := s_length) l3 c3 k3
  have F4 := fun_mk (st := s_first_gap) l4 c4 k4
  have F5 := fun_mk (st := s_check_zone) l5 c5 k5
  have F6 := fun_mk (st := s_check_persons) l6 c6 k6
  have F7 := fun_mk (st := s_joined) l7 c7 k7
  have F8 := fun_mk (st := s_both) l8 c8 k8
  have F9 := fun_mk (st := s_is_open_minute) l9 c9 k9
  have F10 := fun_mk (st := s_is_open) l10 c10 k10
  have F11 := fun_mk (st := s_offset_at) l11 c11 k11
  have F12 := fun_mk (st := s_local) l12 c12 k12
  have F13 := fun_mk (st := s_next_edge) l13 c13 k13
  have F14 := fun_mk (st := s_next_turn) l14 c14 k14
  have F15 := fun_mk (st := s_open_spells) l15 c15 k15
  have F16 := fun_mk (st := s_common_times) l16 c16 k16
  have F17 := fun_mk (st := s_first_common) l17 c17 k17
  have F18 := fun_mk (st := s__law_take) l18 c18 k18
  have F19 := fun_mk (st := s__law_spells) l19 c19 k19
  have F20 := fun_mk (st := s_rest) l20 c20 k20
  have F21 := fun_mk (st := s_either) l21 c21 k21
  have F22 := fun_mk (st := s__law_ticks) l22 c22 k22
  have F23 := fun_mk (st := s__law_is_right) l23 c23 k23
  have F24 := fun_mk (st := s_law) l24 c24 k24
  refine ⟨PySem.W.fnOf "law" "law" (defArgs s_law) (defBody s_law) (defScope s_law) .none kV24 dc24 pm24 an24 cd24 ct24, fun s v => .of_eq rfl, fun base _ _ => ?_⟩
  exact law_ok (ok_law (P := l.prog) (w := w) (base := base) {
    a__law_draws := f0
    d__law_draws := _
    F__law_draws := F0
    g__law_draws := PySem.W.mg_of X G a0
    B__law_draws := F0.binds (ps := ["script", "count"]) fun _ _ _ _ _ _ us hl => match us, hl with | [_, _], _ => rfl
    a_check_bookings := f1
    d_check_bookings := _
    F_check_bookings := F1
    g_check_bookings := PySem.W.mg_of X G a1
    B_check_bookings := F1.binds (ps := ["bookings"]) fun _ _ _ _ _ _ us hl => match us, hl with | [_], _ => rfl
    a_free_spells := f2
    d_free_spells := _
    F_free_spells := F2
    g_free_spells := PySem.W.mg_of X G a2
    B_free_spells := F2.binds (ps := ["bookings", "start", "end"]) fun _ _ _ _ _ _ us hl => match us, hl with | [_, _, _], _ => rfl
    a_length := f3
    d_length := _
    F_length := F3
    g_length := PySem.W.mg_of X G a3
    B_length := F3.binds (ps := ["spells"]) fun _ _ _ _ _ _ us hl => match us, hl with | [_], _ => rfl
    a_first_gap := f4
    d_first_gap := _
    F_first_gap := F4
    g_first_gap := PySem.W.mg_of X G a4
    B_first_gap := F4.binds (ps := ["bookings", "tick", "length"]) fun _ _ _ _ _ _ us hl => match us, hl with | [_, _, _], _ => rfl
    a_check_zone := f5
    d_check_zone := _
    F_check_zone := F5
    g_check_zone := PySem.W.mg_of X G a5
    B_check_zone := F5.binds (ps := ["zone"]) fun _ _ _ _ _ _ us hl => match us, hl with | [_], _ => rfl
    a_check_persons := f6
    d_check_persons := _
    F_check_persons := F6
    g_check_persons := PySem.W.mg_of X G a6
    B_check_persons := F6.binds (ps := ["persons", "start", "end"]) fun _ _ _ _ _ _ us hl => match us, hl with | [_, _, _], _ => rfl
    a_joined := f7
    d_joined := _
    F_joined := F7
    g_joined := PySem.W.mg_of X G a7
    B_joined := F7.binds (ps := ["pairs"]) fun _ _ _ _ _ _ us hl => match us, hl with | [_], _ => rfl
    a_both := f8
    d_both := _
    F_both := F8
    g_both := PySem.W.mg_of X G a8
    B_both := F8.binds (ps := ["first", "second"]) fun _ _ _ _ _ _ us hl => match us, hl with | [_, _], _ => rfl
    a_is_open_minute := f9
    d_is_open_minute := _
    F_is_open_minute := F9
    g_is_open_minute := PySem.W.mg_of X G a9
    B_is_open_minute := F9.binds (ps := ["week", "minute"]) fun _ _ _ _ _ _ us hl => match us, hl with | [_, _], _ => rfl
    a_is_open := f10
    d_is_open := _
    F_is_open := F10
    g_is_open := PySem.W.mg_of X G a10
    B_is_open := F10.binds (ps := ["week", "closed", "time"]) fun _ _ _ _ _ _ us hl => match us, hl with | [_, _, _], _ => rfl
    a_offset_at := f11
    d_offset_at := _
    F_offset_at := F11
    g_offset_at := PySem.W.mg_of X G a11
    B_offset_at := F11.binds (ps := ["zone", "tick"]) fun _ _ _ _ _ _ us hl => match us, hl with | [_, _], _ => rfl
    a_local := f12
    d_local := _
    F_local := F12
    g_local := PySem.W.mg_of X G a12
    B_local := F12.binds (ps := ["zone", "tick"]) fun _ _ _ _ _ _ us hl => match us, hl with | [_, _], _ => rfl
    a_next_edge := f13
    d_next_edge := _
    F_next_edge := F13
    g_next_edge := PySem.W.mg_of X G a13
    B_next_edge := F13.binds (ps := ["week", "time"]) fun _ _ _ _ _ _ us hl => match us, hl with | [_, _], _ => rfl
    a_next_turn := f14
    d_next_turn := _
    F_next_turn := F14
    g_next_turn := PySem.W.mg_of X G a14
    B_next_turn := F14.binds (ps := ["week", "closed", "zone", "tick"]) fun _ _ _ _ _ _ us hl => match us, hl with | [_, _, _, _], _ => rfl
    a_open_spells := f15
    d_open_spells := _
    F_open_spells := F15
    g_open_spells := PySem.W.mg_of X G a15
    B_open_spells := F15.binds (ps := ["person", "start", "end"]) fun _ _ _ _ _ _ us hl => match us, hl with | [_, _, _], _ => rfl
    a_common_times := f16
    d_common_times := _
    F_common_times := F16
    g_common_times := PySem.W.mg_of X G a16
    B_common_times := F16.binds (ps := ["persons", "start", "end"]) fun _ _ _ _ _ _ us hl => match us, hl with | [_, _, _], _ => rfl
    a_first_common := f17
    d_first_common := _
    F_first_common := F17
    g_first_common := PySem.W.mg_of X G a17
    B_first_common := F17.binds (ps := ["persons", "start", "end", "length"]) fun _ _ _ _ _ _ us hl => match us, hl with | [_, _, _, _], _ => rfl
    a__law_take := f18
    d__law_take := _
    F__law_take := F18
    g__law_take := PySem.W.mg_of X G a18
    B__law_take := F18.binds (ps := ["draws", "limit"]) fun _ _ _ _ _ _ us hl => match us, hl with | [_, _], _ => rfl
    a__law_spells := f19
    d__law_spells := _
    F__law_spells := F19
    g__law_spells := PySem.W.mg_of X G a19
    B__law_spells := F19.binds (ps := ["draws"]) fun _ _ _ _ _ _ us hl => match us, hl with | [_], _ => rfl
    a_rest := f20
    d_rest := _
    F_rest := F20
    g_rest := PySem.W.mg_of X G a20
    B_rest := F20.binds (ps := ["spells", "start", "end"]) fun _ _ _ _ _ _ us hl => match us, hl with | [_, _, _], _ => rfl
    a_either := f21
    d_either := _
    F_either := F21
    g_either := PySem.W.mg_of X G a21
    B_either := F21.binds (ps := ["first", "second"]) fun _ _ _ _ _ _ us hl => match us, hl with | [_, _], _ => rfl
    a__law_ticks := f22
    d__law_ticks := _
    F__law_ticks := F22
    g__law_ticks := PySem.W.mg_of X G a22
    B__law_ticks := F22.binds (ps := ["spells"]) fun _ _ _ _ _ _ us hl => match us, hl with | [_], _ => rfl
    a__law_is_right := f23
    d__law_is_right := _
    F__law_is_right := F23
    g__law_is_right := PySem.W.mg_of X G a23
    B__law_is_right := F23.binds (ps := ["spells"]) fun _ _ _ _ _ _ us hl => match us, hl with | [_], _ => rfl
    a_law := fa
    d_law := _
    F_law := F24
    g_law := PySem.W.mg_of X G a24
    B_law := F24.binds (ps := ["script"]) fun _ _ _ _ _ _ us hl => match us, hl with | [_], _ => rfl
    b_list := PySem.W.mg_none_of X G z0
    b_len := PySem.W.mg_none_of X G z1
    b_range := PySem.W.mg_none_of X G z2
    b_int := PySem.W.mg_none_of X G z3
    b_all := PySem.W.mg_none_of X G z4
    b_sorted := PySem.W.mg_none_of X G z5
    b_min := PySem.W.mg_none_of X G z6
    b_max := PySem.W.mg_none_of X G z7
    b_sum := PySem.W.mg_none_of X G z8
    b_abs := PySem.W.mg_none_of X G z9
    b_zip := PySem.W.mg_none_of X G z10
    b_any := PySem.W.mg_none_of X G z11
    b_dict := PySem.W.mg_none_of X G z12
    b_tuple := PySem.W.mg_none_of X G z13
    c_MOST := ⟨_, PySem.W.mg_of X G y0⟩
    c_MOST_CHANGES := ⟨_, PySem.W.mg_of X G y1⟩
    c_FARTHEST_zones := ⟨_, PySem.W.mg_of X G y2⟩
    c_MOST_PERSONS := ⟨_, PySem.W.mg_of X G y3⟩
    c_LONGEST_SPAN := ⟨_, PySem.W.mg_of X G y4⟩
    c_DAY := ⟨_, PySem.W.mg_of X G y5⟩
    c_FIRST_MONDAY := ⟨_, PySem.W.mg_of X G y6⟩
    c_WEEK := ⟨_, PySem.W.mg_of X G y7⟩
    c_FARTHEST_hours := ⟨_, PySem.W.mg_of X G y8⟩
  })
end K80

open PySem PySem.W PyProof.Rows
set_option maxHeartbeats 0 in
theorem PySem.Challenge.cw_foreverdays_k80_whole_spells_and_spans_holds : PySem.Challenge.rw_foreverdays_k80_whole_spells_and_spans.Holds := by
  w_on; o_law; k_head; (case hw => w_witness2)
  k_fill
  refine L2.walk_of (l := PySem.Challenge.rw_foreverdays_k80_whole_spells_and_spans) (n := 63) (k := 7) (x := "script") (CX := fun _ => L2.CX0) (sp := fun w => K80.spLaw _) rfl (by decide) rfl ⟨rfl, by decide, by decide⟩ (fun w h Y => PySem.W.kIn_of Y) ?F (fun _ _ a ns hl _ hS => ⟨a, ns, rfl, hS, hl, fun _ => rfl⟩) (fun _ _ _ _ _ h => h)
  case F =>
    intro w mg fa h KX G hmg
    refine' K80.all_mk KX G hmg ?a0 ?l0 ?c0 ?k0 ?a1 ?l1 ?c1 ?k1 ?a2 ?l2 ?c2 ?k2 ?a3 ?l3 ?c3 ?k3 ?a4 ?l4 ?c4 ?k4 ?a5 ?l5 ?c5 ?k5 ?a6 ?l6 ?c6 ?k6 ?a7 ?l7 ?c7 ?k7 ?a8 ?l8 ?c8 ?k8 ?a9 ?l9 ?c9 ?k9 ?a10 ?l10 ?c10 ?k10 ?a11 ?l11 ?c11 ?k11 ?a12 ?l12 ?c12 ?k12 ?a13 ?l13 ?c13 ?k13 ?a14 ?l14 ?c14 ?k14 ?a15 ?l15 ?c15 ?k15 ?a16 ?l16 ?c16 ?k16 ?a17 ?l17 ?c17 ?k17 ?a18 ?l18 ?c18 ?k18 ?a19 ?l19 ?c19 ?k19 ?a20 ?l20 ?c20 ?k20 ?a21 ?l21 ?c21 ?k21 ?a22 ?l22 ?c22 ?k22 ?a23 ?l23 ?c23 ?k23 ?a24 ?l24 ?c24 ?k24 ?z0 ?z1 ?z2 ?z3 ?z4 ?z5 ?z6 ?z7 ?z8 ?z9 ?z10 ?z11 ?z12 ?z13 ?y0 ?y1 ?y2 ?y3 ?y4 ?y5 ?y6 ?y7 ?y8
    case a0 => k_is
    case l0 => k_is
    case c0 => k_is
    case k0 => k_is
    case a1 => k_is
    case l1 => k_is
    case c1 => k_is
    case k1 => k_is
    case a2 => k_is
    case l2 => k_is
    case c2 => k_is
    case k2 => k_is
    case a3 => k_is
    case l3 => k_is
    case c3 => k_is
    case k3 => k_is
    case a4 => k_is
    case l4 => k_is
    case c4 => k_is
    case k4 => k_is
    case a5 => k_is
    case l5 => k_is
    case c5 => k_is
    case k5 => k_is
    case a6 => k_is
    case l6 => k_is
    case c6 => k_is
    case k6 => k_is
    case a7 => k_is
    case l7 => k_is
    case c7 => k_is
    case k7 => k_is
    case a8 => k_is
    case l8 => k_is
    case c8 => k_is
    case k8 => k_is
    case a9 => k_is
    case l9 => k_is
    case c9 => k_is
    case k9 => k_is
    case a10 => k_is
    case l10 => k_is
    case c10 => k_is
    case k10 => k_is
    case a11 => k_is
    case l11 => k_is
    case c11 => k_is
    case k11 => k_is
    case a12 => k_is
    case l12 => k_is
    case c12 => k_is
    case k12 => k_is
    case a13 => k_is
    case l13 => k_is
    case c13 => k_is
    case k13 => k_is
    case a14 => k_is
    case l14 => k_is
    case c14 => k_is
    case k14 => k_is
    case a15 => k_is
    case l15 => k_is
    case c15 => k_is
    case k15 => k_is
    case a16 => k_is
    case l16 => k_is
    case c16 => k_is
    case k16 => k_is
    case a17 => k_is
    case l17 => k_is
    case c17 => k_is
    case k17 => k_is
    case a18 => k_is
    case l18 => k_is
    case c18 => k_is
    case k18 => k_is
    case a19 => k_is
    case l19 => k_is
    case c19 => k_is
    case k19 => k_is
    case a20 => k_is
    case l20 => k_is
    case c20 => k_is
    case k20 => k_is
    case a21 => k_is
    case l21 => k_is
    case c21 => k_is
    case k21 => k_is
    case a22 => k_is
    case l22 => k_is
    case c22 => k_is
    case k22 => k_is
    case a23 => k_is
    case l23 => k_is
    case c23 => k_is
    case k23 => k_is
    case a24 => k_is
    case l24 => k_is
    case c24 => k_is
    case k24 => k_is
    case z0 => k_is
    case z1 => k_is
    case z2 => k_is
    case z3 => k_is
    case z4 => k_is
    case z5 => k_is
    case z6 => k_is
    case z7 => k_is
    case z8 => k_is
    case z9 => k_is
    case z10 => k_is
    case z11 => k_is
    case z12 => k_is
    case z13 => k_is
    case y0 => k_is
    case y1 => k_is
    case y2 => k_is
    case y3 => k_is
    case y4 => k_is
    case y5 => k_is
    case y6 => k_is
    case y7 => k_is
    case y8 => k_is
