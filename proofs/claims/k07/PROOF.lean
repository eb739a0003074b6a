import PyProof.Rows.All
import Wide.All
import OpenK.AllK
import Wide.FinOn
import HandS.ForMost
import HandS.ForExc
import HandS.CallSlots
import HandS.Lambda
import HandS.Flow
import HandS.TupAny
import HandS.Style
import HandS.Wide
import HandS.IsInst
import HandS.Conv
import HandS.SortInts
import HandS.ExcInit
import HandS.Deep
import HandS.ExcField
import HandS.TryMany
import KE.LtData
import KE.SortData
import HandS.ExcIs
import HandS.TupMul
import KE.GoesMore
import HandS.Dict
import PySem.Challenge.RW_movingpays_k07_scripts_judged
set_option Elab.async false
set_option linter.all false
set_option maxRecDepth 100000
set_option maxHeartbeats 400000
namespace MV
open PySem PySem.Spec PyProof.Rows L2

/-! ## values, objects, results -/
/-- a value: pure data, a mutable object by its place in the store, a list from elsewhere that is only read -/
inductive D where
  | p (d : PyData)
  | r (i : Nat)
  | sl (ds : List PyData)
/-- a mutable object -/
inductive OB where
  | lst (xs : List D)
  | dct (kvs : List (Key × D))
  | ins (c : Str) (fs : List (Str × D))
abbrev Sto := List OB
inductive R (α : Type) where
  | ok (a : α) (st : Sto)
  | exc (c : Str) (d : D) (st : Sto)
  | bad
def R.bind {α β : Type} (r : R α) (f : α → Sto → R β) : R β :=
  match r with
  | .ok a st => f a st
  | .exc c d st => .exc c d st
  | .bad => .bad
abbrev Sl := List (Option V)
abbrev Ev := List (Option D)
abbrev EF := Ev → Sto → R D

/-! ## what stands for what -/
/-- where the frozen lists are, where the store's objects are -/
structure Cf where
  F : Addr → Prop
  ad : Nat → Addr
def KL (K : PySem.W.Frag) (a : Addr) (xs : List V) : Prop :=
  ∃ (o : Obj) (its : Array Value) (n : Nat), K.lookup a = some o ∧ o.cls = .type "list" ∧ o.dict = none ∧ o.data = .seq its n ∧ its.size ≤ sizeLine ∧ Vals xs its.toList
def SlL (K : PySem.W.Frag) (H : Hp) (a : Addr) (xs : List V) : Prop := (∃ o, H a = some (.frz o (.lst xs))) ∨ KL K a xs
theorem SlL.seq {K : PySem.W.Frag} {H : Hp} {a : Addr} {xs : List V} (h : SlL K H a xs) : SqL K H a xs := by
  rcases h with h | h
  · exact .inl (.inr h)
  · exact .inr h
/-- what never changes -/
inductive Stab : HO → Prop
  | tup (xs) : Stab (.tup xs)
  | frz (o u) : Stab (.frz o u)
  | ext (φ) : Stab (.ext φ)
mutual
def RepP (K : PySem.W.Frag) (F : Addr → Prop) (H : Hp) : PyData → V → Prop
  | .none, v => v = .non
  | .bool b, v => v = .bl b
  | .int i, v => v = .int i
  | .str s, v => v = .str s
  | .list ds, v => ∃ a xs, v = .ref a ∧ (F a ∧ H a = some (.lst xs)) ∧ RepPs K F H ds xs
  | .tuple ds, v => ∃ a xs, v = .ref a ∧ SqT K H a xs ∧ RepPs K F H ds xs
  | .dict _, _ => False
def RepPs (K : PySem.W.Frag) (F : Addr → Prop) (H : Hp) : List PyData → List V → Prop
  | [], vs => vs = []
  | d :: ds, vs => ∃ v r, vs = v :: r ∧ RepP K F H d v ∧ RepPs K F H ds r
end
def RepD (K : PySem.W.Frag) (c : Cf) (n : Nat) (H : Hp) : D → V → Prop
  | .p d, v => RepP K c.F H d v
  | .r i, v => i < n ∧ v = .ref (c.ad i)
  | .sl ds, v => ∃ a xs, v = .ref a ∧ SlL K H a xs ∧ RepPs K c.F H ds xs
def RepDs (K : PySem.W.Frag) (c : Cf) (n : Nat) (H : Hp) : List D → List V → Prop
  | [], vs => vs = []
  | d :: ds, vs => ∃ v r, vs = v :: r ∧ RepD K c n H d v ∧ RepDs K c n H ds r
def RepKv {κ : Type} (K : PySem.W.Frag) (c : Cf) (n : Nat) (H : Hp) : List (κ × D) → List (κ × V) → Prop
  | [], vs => vs = []
  | (k, d) :: ds, vs => ∃ v r, vs = (k, v) :: r ∧ RepD K c n H d v ∧ RepKv K c n H ds r
def RepO (K : PySem.W.Frag) (mg : Str → Option Value) (c : Cf) (n : Nat) (H : Hp) : OB → Addr → Prop
  | .lst ds, a => ∃ xs, H a = some (.lst xs) ∧ RepDs K c n H ds xs
  | .dct kvs, a => ∃ vs, H a = some (.dK vs) ∧ RepKv K c n H kvs vs
  | .ins cn fs, a => ∃ C dx vs, mg cn = some (.ref C) ∧ H a = some (.ins C dx vs) ∧ RepKv K c n H fs vs
/-- the tables of code objects: where, of which name -/
class Tbs where
  T : List (Addr × Str)
/-- the store stands in the heap -/
structure Wd [Tbs] (K : PySem.W.Frag) (mg : Str → Option Value) (c : Cf) (H : Hp) (st : Sto) : Prop where
  ob : ∀ i o, st[i]? = some o → RepO K mg c st.length H o (c.ad i)
  inj : ∀ i j, i < st.length → j < st.length → c.ad i = c.ad j → i = j
  nf : ∀ i, i < st.length → ¬ c.F (c.ad i)
  fz : ∀ a, c.F a → ∃ xs, H a = some (.lst xs)
  tabs : LamX.Tabs Tbs.T H
/-- from one heap to a later one -/
structure Gr [Tbs] (c : Cf) (n : Nat) (H : Hp) (c' : Cf) (n' : Nat) (H' : Hp) : Prop where
  stay : ∀ a u, H a = some u → Stab u → H' a = some u
  fz : ∀ a, c.F a → c'.F a ∧ H' a = H a
  ad : ∀ i, i < n → c'.ad i = c.ad i
  le : n ≤ n'
  tab : ∀ q ∈ Tbs.T, LamX.TabS H q.1 q.2 → LamX.TabS H' q.1 q.2
variable [Tbs]
section
variable {K : PySem.W.Frag} {mg : Str → Option Value} {c c1 c2 : Cf} {n n1 n2 : Nat} {H H1 H2 : Hp}
theorem Gr.refl : Gr c n H c n H := ⟨fun _ _ h _ => h, fun _ h => ⟨h, rfl⟩, fun _ _ => rfl, Nat.le_refl _, fun _ _ h => h⟩
theorem Gr.trans (a : Gr c n H c1 n1 H1) (b : Gr c1 n1 H1 c2 n2 H2) : Gr c n H c2 n2 H2 :=
  ⟨fun x u h q => b.stay x u (a.stay x u h q) q, fun x h => ⟨(b.fz x (a.fz x h).1).1, (b.fz x (a.fz x h).1).2.trans (a.fz x h).2⟩,
    fun i h => (b.ad i (Nat.lt_of_lt_of_le h a.le)).trans (a.ad i h), Nat.le_trans a.le b.le, fun q hq h => b.tab q hq (a.tab q hq h)⟩
theorem Gr.fzl (g : Gr c n H c1 n1 H1) {a : Addr} {xs : List V} (h : c.F a ∧ H a = some (.lst xs)) : c1.F a ∧ H1 a = some (.lst xs) :=
  ⟨(g.fz a h.1).1, (g.fz a h.1).2.trans h.2⟩
theorem Gr.sqt (g : Gr c n H c1 n1 H1) {a : Addr} {xs : List V} (h : SqT K H a xs) : SqT K H1 a xs := by
  rcases h with (r | ⟨o, r⟩) | r
  · exact .inl (.inl (g.stay a _ r (.tup _)))
  · exact .inl (.inr ⟨o, g.stay a _ r (.frz _ _)⟩)
  · exact .inr r
theorem Gr.sll (g : Gr c n H c1 n1 H1) {a : Addr} {xs : List V} (h : SlL K H a xs) : SlL K H1 a xs := by
  rcases h with ⟨o, r⟩ | r
  · exact .inl ⟨o, g.stay a _ r (.frz _ _)⟩
  · exact .inr r
mutual
theorem Gr.repP (g : Gr c n H c1 n1 H1) : ∀ (d : PyData) (v : V), RepP K c.F H d v → RepP K c1.F H1 d v
  | .none, v, h => h
  | .bool b, v, h => h
  | .int i, v, h => h
  | .str s, v, h => h
  | .list ds, v, ⟨a, xs, e, f, r⟩ => ⟨a, xs, e, g.fzl f, Gr.repPs g ds xs r⟩
  | .tuple ds, v, ⟨a, xs, e, f, r⟩ => ⟨a, xs, e, g.sqt f, Gr.repPs g ds xs r⟩
  | .dict _, v, h => h
theorem Gr.repPs (g : Gr c n H c1 n1 H1) : ∀ (ds : List PyData) (vs : List V), RepPs K c.F H ds vs → RepPs K c1.F H1 ds vs
  | [], vs, h => h
  | d :: ds, vs, ⟨v, r, e, h1, h2⟩ => ⟨v, r, e, Gr.repP g d v h1, Gr.repPs g ds r h2⟩
end
theorem Gr.repD (g : Gr c n H c1 n1 H1) : ∀ {d : D} {v : V}, RepD K c n H d v → RepD K c1 n1 H1 d v
  | .p d, v, h => g.repP d v h
  | .r i, v, ⟨l, e⟩ => ⟨Nat.lt_of_lt_of_le l g.le, by rw [e, g.ad i l]⟩
  | .sl ds, v, ⟨a, xs, e, f, r⟩ => ⟨a, xs, e, g.sll f, g.repPs ds xs r⟩
theorem Gr.repDs (g : Gr c n H c1 n1 H1) : ∀ {ds : List D} {vs : List V}, RepDs K c n H ds vs → RepDs K c1 n1 H1 ds vs
  | [], _, h => h
  | _ :: _, _, ⟨v, r, e, h1, h2⟩ => ⟨v, r, e, g.repD h1, Gr.repDs g h2⟩
theorem Gr.repKv {κ : Type} (g : Gr c n H c1 n1 H1) : ∀ {ds : List (κ × D)} {vs : List (κ × V)}, RepKv K c n H ds vs → RepKv K c1 n1 H1 ds vs
  | [], _, h => h
  | (_, _) :: _, _, ⟨v, r, e, h1, h2⟩ => ⟨v, r, e, g.repD h1, Gr.repKv g h2⟩
end
section
variable {K : PySem.W.Frag} {mg : Str → Option Value} {c c1 c2 : Cf} {n n1 n2 : Nat} {H H1 H2 : Hp} {st : Sto} {p : Addr}
theorem Gr.repO (g : Gr c n H c1 n1 H1) : ∀ {o : OB} {a : Addr}, H1 a = H a → RepO K mg c n H o a → RepO K mg c1 n1 H1 o a
  | .lst _, _, e, ⟨xs, h, r⟩ => ⟨xs, e.trans h, g.repDs r⟩
  | .dct _, _, e, ⟨vs, h, r⟩ => ⟨vs, e.trans h, g.repKv r⟩
  | .ins _ _, _, e, ⟨C, dx, vs, hc, h, r⟩ => ⟨C, dx, vs, hc, e.trans h, g.repKv r⟩
theorem RepO.isAt : ∀ {o : OB} {a : Addr}, RepO K mg c n H o a → ∃ u, H a = some u ∧ Mut (some u)
  | .lst _, _, ⟨xs, h, _⟩ => ⟨_, h, trivial⟩
  | .dct _, _, ⟨vs, h, _⟩ => ⟨_, h, trivial⟩
  | .ins _ _, _, ⟨C, dx, vs, _, h, _⟩ => ⟨_, h, trivial⟩
theorem Wd.isAt (w : Wd K mg c H st) {i : Nat} (h : i < st.length) : ∃ u, H (c.ad i) = some u ∧ Mut (some u) :=
  (w.ob i _ (List.getElem?_eq_getElem h)).isAt
theorem Wd.off (w : Wd K mg c H st) {i : Nat} (h : i < st.length) (hp : H p = none) : c.ad i ≠ p := by
  obtain ⟨u, e, _⟩ := w.isAt h
  exact ne_of_none e hp
theorem Wd.fzoff (w : Wd K mg c H st) {a : Addr} (h : c.F a) (hp : H p = none) : a ≠ p := by
  obtain ⟨xs, e⟩ := w.fz a h
  exact ne_of_none e hp
theorem at_fresh {a : Addr} {u o : HO} (hp : H p = none) (r : H a = some u) : upd H p o a = some u := by
  rw [upd_ne (ne_of_none r hp)]
  exact r
/-- anything new at p, told to nobody but by its address -/
theorem Wd.grow (w : Wd K mg c H st) (hp : H p = none) (o : HO) : Gr c st.length H c st.length (upd H p o) :=
  ⟨fun a u r _ => at_fresh hp r, fun a h => ⟨h, upd_ne (w.fzoff h hp)⟩, fun _ _ => rfl, Nat.le_refl _,
    fun _ _ t => t.ext fun b u e => by rw [upd_ne (ne_of_none e hp)]; exact e⟩
theorem Wd.fresh (w : Wd K mg c H st) (hp : H p = none) (o : HO) : Wd K mg c (upd H p o) st :=
  ⟨fun i u e => (w.grow hp o).repO (upd_ne (w.off (List.getElem?_eq_some_iff.mp e).1 hp)) (w.ob i u e), w.inj, w.nf,
    fun a h => let ⟨xs, r⟩ := w.fz a h; ⟨xs, at_fresh hp r⟩, fun q hq => (w.grow hp o).tab q hq (w.tabs q hq)⟩
/-- a new frozen list -/
def Cf.plusF (c : Cf) (p : Addr) : Cf := ⟨fun a => a = p ∨ c.F a, c.ad⟩
theorem Wd.growF (w : Wd K mg c H st) (hp : H p = none) (o : HO) : Gr c st.length H (c.plusF p) st.length (upd H p o) :=
  ⟨fun a u r _ => at_fresh hp r, fun a h => ⟨.inr h, upd_ne (w.fzoff h hp)⟩, fun _ _ => rfl, Nat.le_refl _,
    fun _ _ t => t.ext fun b u e => by rw [upd_ne (ne_of_none e hp)]; exact e⟩
theorem Wd.freshF (w : Wd K mg c H st) (hp : H p = none) (xs : List V) : Wd K mg (c.plusF p) (upd H p (.lst xs)) st :=
  ⟨fun i u e => (w.growF hp _).repO (upd_ne (w.off (List.getElem?_eq_some_iff.mp e).1 hp)) (w.ob i u e), w.inj,
    fun i h hf => by
      rcases hf with hf | hf
      · exact w.off h hp hf
      · exact w.nf i h hf,
    fun a h => by
      rcases h with h | h
      · exact ⟨xs, by rw [h]; exact upd_same⟩
      · obtain ⟨ys, r⟩ := w.fz a h
        exact ⟨ys, at_fresh hp r⟩, fun q hq => (w.growF hp _).tab q hq (w.tabs q hq)⟩
/-- a new object of the store -/
def Cf.plusR (c : Cf) (n : Nat) (p : Addr) : Cf := ⟨c.F, fun i => if i = n then p else c.ad i⟩
theorem Cf.plusR_ne {i : Nat} (h : i ≠ n) : (c.plusR n p).ad i = c.ad i := if_neg h
theorem Cf.plusR_at : (c.plusR n p).ad n = p := if_pos rfl
theorem Wd.growR (w : Wd K mg c H st) (hp : H p = none) (o : HO) : Gr c st.length H (c.plusR st.length p) (st.length + 1) (upd H p o) :=
  ⟨fun a u r _ => at_fresh hp r, fun a h => ⟨h, upd_ne (w.fzoff h hp)⟩, fun i h => Cf.plusR_ne (Nat.ne_of_lt h), Nat.le_succ _,
    fun _ _ t => t.ext fun b u e => by rw [upd_ne (ne_of_none e hp)]; exact e⟩
theorem Wd.freshR (w : Wd K mg c H st) (hp : H p = none) {o : HO} {u : OB} (hu : RepO K mg (c.plusR st.length p) (st.length + 1) (upd H p o) u p) : Wd K mg (c.plusR st.length p) (upd H p o) (st ++ [u]) := by
  have hl : (st ++ [u]).length = st.length + 1 := by simp
  refine ⟨fun i v e => ?_, fun i j hi hj e => ?_, fun i hi hf => ?_, fun a h => ?_, fun q hq => (w.growR hp _).tab q hq (w.tabs q hq)⟩
  · rw [hl]
    by_cases h : i < st.length
    · rw [List.getElem?_append_left h] at e
      rw [Cf.plusR_ne (Nat.ne_of_lt h)]
      exact (w.growR hp o).repO (upd_ne (w.off h hp)) (w.ob i v e)
    · have hi : i < (st ++ [u]).length := (List.getElem?_eq_some_iff.mp e).1
      have : i = st.length := by omega
      subst this
      rw [List.getElem?_append_right (Nat.le_refl _), Nat.sub_self] at e
      cases e
      rw [Cf.plusR_at]
      exact hu
  · rw [hl] at hi hj
    by_cases h : i = st.length <;> by_cases h' : j = st.length
    · omega
    · subst h
      rw [Cf.plusR_at, Cf.plusR_ne h'] at e
      exact absurd e.symm (w.off (by omega) hp)
    · subst h'
      rw [Cf.plusR_at, Cf.plusR_ne h] at e
      exact absurd e (w.off (by omega) hp)
    · rw [Cf.plusR_ne h, Cf.plusR_ne h'] at e
      exact w.inj i j (by omega) (by omega) e
  · rw [hl] at hi
    by_cases h : i = st.length
    · subst h
      rw [Cf.plusR_at] at hf
      exact absurd rfl (w.fzoff hf hp)
    · rw [Cf.plusR_ne h] at hf
      exact w.nf i (by omega) hf
  · obtain ⟨ys, r⟩ := w.fz a h
    exact ⟨ys, at_fresh hp r⟩
/-- an object of the store is changed -/
theorem tab_write {a : Addr} {o x : HO} (hx : H a = some x) (hm : ∀ ps, x ≠ .tbl ps) (hm2 : ∀ φ, x ≠ .ext φ) {P : Addr} {q : Str} (t : LamX.TabS H P q) : LamX.TabS (upd H a o) P q := by
  obtain ⟨ps, hP, ok, h⟩ := t
  refine ⟨ps, ?_, ok, fun pos cv e => ?_⟩
  · rw [upd_ne (fun e => by rw [e, hx] at hP; cases hP; exact hm _ rfl)]
    exact hP
  · obtain ⟨cc, e1, e2⟩ := h pos cv e
    refine ⟨cc, e1, ?_⟩
    rw [upd_ne (fun e => by rw [e, hx] at e2; cases e2; exact hm2 _ rfl)]
    exact e2
/-- what a store's object may be -/
inductive Plain : HO → Prop
  | lst (xs) : Plain (.lst xs)
  | dK (xs) : Plain (.dK xs)
  | ins (a b c) : Plain (.ins a b c)
theorem RepO.plain : ∀ {o : OB} {a : Addr}, RepO K mg c n H o a → ∃ u, H a = some u ∧ Plain u
  | .lst _, _, ⟨xs, h, _⟩ => ⟨_, h, .lst _⟩
  | .dct _, _, ⟨vs, h, _⟩ => ⟨_, h, .dK _⟩
  | .ins _ _, _, ⟨C, dx, vs, _, h, _⟩ => ⟨_, h, .ins _ _ _⟩
theorem Plain.mut {u : HO} (h : Plain u) : Mut (some u) := by
  cases h <;> exact trivial
theorem Plain.notbl {u : HO} (h : Plain u) : (∀ ps, u ≠ .tbl ps) ∧ ∀ φ, u ≠ .ext φ := by
  cases h <;> exact ⟨fun _ e => (by cases e), fun _ e => (by cases e)⟩
theorem Wd.growW (w : Wd K mg c H st) {i : Nat} (hi : i < st.length) (o : HO) : Gr c st.length H c st.length (upd H (c.ad i) o) := by
  obtain ⟨u, hu, pl⟩ := (w.ob i _ (List.getElem?_eq_getElem hi)).plain
  refine ⟨fun a v r sv => ?_, fun a h => ⟨h, upd_ne (fun e => w.nf i hi (e ▸ h))⟩, fun _ _ => rfl, Nat.le_refl _,
    fun _ _ t => tab_write hu pl.notbl.1 pl.notbl.2 t⟩
  rw [upd_ne (fun e => by rw [e, hu] at r; cases r; cases pl <;> cases sv)]
  exact r
theorem Wd.write (w : Wd K mg c H st) {i : Nat} (hi : i < st.length) {o : HO} {u : OB} (hu : RepO K mg c st.length (upd H (c.ad i) o) u (c.ad i)) : Wd K mg c (upd H (c.ad i) o) (st.set i u) := by
  have hl : (st.set i u).length = st.length := List.length_set
  obtain ⟨x, hx, pl⟩ := (w.ob i _ (List.getElem?_eq_getElem hi)).plain
  refine ⟨fun j v e => ?_, fun a b ha hb => ?_, fun j hj => ?_, fun a h => ?_, fun q hq => (w.growW hi _).tab q hq (w.tabs q hq)⟩
  · rw [hl]
    by_cases h : i = j
    · subst h
      rw [List.getElem?_set_self hi] at e
      cases e
      exact hu
    · rw [List.getElem?_set_ne h] at e
      have hj : j < st.length := (List.getElem?_eq_some_iff.mp e).1
      exact (w.growW hi o).repO (upd_ne fun z => h (w.inj i j hi hj z.symm)) (w.ob j v e)
  · rw [hl] at ha hb
    exact w.inj a b ha hb
  · rw [hl] at hj
    exact w.nf j hj
  · obtain ⟨ys, r⟩ := w.fz a h
    have na : a ≠ c.ad i := fun e => w.nf i hi (e ▸ h)
    exact ⟨ys, by rw [upd_ne na]; exact r⟩
end
end MV

set_option Elab.async false
set_option linter.all false
set_option maxRecDepth 100000
set_option maxHeartbeats 400000
namespace MV
open PySem PySem.Spec PyProof.Rows L2
variable [Tbs]

/-! ## readings -/
def EnvR (K : PySem.W.Frag) (c : Cf) (n : Nat) (H : Hp) (σ : Sl) (env : Ev) : Prop :=
  σ.length = env.length ∧ ∀ (i : Nat) d, env[i]? = some (some d) → ∃ v, σ[i]? = some (some v) ∧ RepD K c n H d v
theorem EnvR.up {K : PySem.W.Frag} {c c1 : Cf} {n n1 : Nat} {H H1 : Hp} {σ : Sl} {env : Ev} (e : EnvR K c n H σ env) (g : Gr c n H c1 n1 H1) : EnvR K c1 n1 H1 σ env :=
  ⟨e.1, fun i d h => let ⟨v, a, b⟩ := e.2 i d h; ⟨v, a, g.repD b⟩⟩
theorem EnvR.set {K : PySem.W.Frag} {c : Cf} {n : Nat} {H : Hp} {σ : Sl} {env : Ev} {d : D} {v : V} (e : EnvR K c n H σ env) (i : Nat) (r : RepD K c n H d v) : EnvR K c n H (σ.set i (some v)) (env.set i (some d)) := by
  refine ⟨by rw [List.length_set, List.length_set]; exact e.1, fun j d' h => ?_⟩
  by_cases hj : i = j
  · subst hj
    have hl : i < env.length := by
      have := (List.getElem?_eq_some_iff.mp h).1
      rwa [List.length_set] at this
    rw [List.getElem?_set_self hl] at h
    cases h
    exact ⟨v, by rw [List.getElem?_set_self (by rw [e.1]; exact hl)], r⟩
  · rw [List.getElem?_set_ne hj] at h
    obtain ⟨v', a, b⟩ := e.2 j d' h
    exact ⟨v', by rw [List.getElem?_set_ne hj]; exact a, b⟩
abbrev Rp (α β : Type) := Cf → Nat → Hp → α → β → Prop
section
variable {α β γ δ : Type}
def Post (K : PySem.W.Frag) (mg : Str → Option Value) (rp : Rp α β) (c : Cf) (n : Nat) (H : Hp) (E : XK) (Q : β → Hp → Prop) : R α → Prop
  | .ok a st => ∀ c' H' v, Gr c n H c' st.length H' → Wd K mg c' H' st → rp c' st.length H' a v → Q v H'
  | .exc e d st => ∀ c' H' C dx v, Gr c n H c' st.length H' → Wd K mg c' H' st → mg e = some (.ref C) → H' dx = some (.xd [("what", v)]) → RepD K c' st.length H' d v → E (.ref C) (some dx) H'
  | .bad => False
variable {K : PySem.W.Frag} {mg : Str → Option Value} {rp : Rp α β} {rp' : Rp γ δ} {c c1 : Cf} {n n1 : Nat} {H H1 : Hp} {E E' : XK} {Q Q' : β → Hp → Prop} {r : R α}
theorem Post.up (g : Gr c n H c1 n1 H1) : ∀ {r : R α}, Post K mg rp c n H E Q r → Post K mg rp c1 n1 H1 E Q r
  | .ok _ _, h => fun c' H' v g' w rv => h c' H' v (g.trans g') w rv
  | .exc _ _ _, h => fun c' H' C dx v g' w hm hx rv => h c' H' C dx v (g.trans g') w hm hx rv
  | .bad, h => h
theorem Post.mono (hq : ∀ v H', Q v H' → Q' v H') : ∀ {r : R α}, Post K mg rp c n H E Q r → Post K mg rp c n H E Q' r
  | .ok _ _, h => fun c' H' v g' w rv => hq _ _ (h c' H' v g' w rv)
  | .exc _ _ _, h => h
  | .bad, h => h
/-- what is known behind a part -/
def Mid (K : PySem.W.Frag) (mg : Str → Option Value) (rp : Rp α β) (rp' : Rp γ δ) (c : Cf) (n : Nat) (H : Hp) (E : XK) (Q : δ → Hp → Prop) (k : α → Sto → R γ) : β → Hp → Prop := fun x H1 =>
  ∃ c1 st1 a, Gr c n H c1 st1.length H1 ∧ Wd K mg c1 H1 st1 ∧ rp c1 st1.length H1 a x ∧ Post K mg rp' c1 st1.length H1 E Q (k a st1)
theorem Post.bind {k : α → Sto → R γ} {Q : δ → Hp → Prop} : ∀ {r : R α}, Post K mg rp' c n H E Q (r.bind k) → Post K mg rp c n H E (Mid K mg rp rp' c n H E Q k) r
  | .ok a st, h => fun c' H' v g' w rv => ⟨c', st, a, g', w, rv, Post.up g' h⟩
  | .exc _ _ _, h => h
  | .bad, h => h
/-- a value is at hand -/
theorem Post.here {a : α} {st : Sto} {v : β} (h : Post K mg rp c n H E Q (.ok a st)) (g : Gr c n H c1 st.length H1) (w : Wd K mg c1 H1 st) (r : rp c1 st.length H1 a v) : Q v H1 := h c1 H1 v g w r
end
abbrev rpD (K : PySem.W.Frag) : Rp D V := RepD K
abbrev rpL (K : PySem.W.Frag) : Rp (List D) (List V) := RepDs K
abbrev rpB : Rp Bool Bool := fun _ _ _ a b => a = b
/-- the reading of f -/
def rd {α β : Type} (X : Cx) (W : WX) (rp : Rp α β) (f : Ev → Sto → R α) (σ : Sl) (H : Hp) (Q : β → Hp → Prop) : Prop :=
  ∃ c env st, EnvR X.K c st.length H σ env ∧ Wd X.K X.mg c H st ∧ Post X.K X.mg rp c st.length H (fun cls d H' => W cls d σ H') Q (f env st)
abbrev rdE (X : Cx) (W : WX) (f : EF) : TE := rd X W (rpD X.K) f
abbrev rdA (X : Cx) (W : WX) (f : Ev → Sto → R (List D)) : TA := rd X W (rpL X.K) f
abbrev rdT (X : Cx) (W : WX) (f : Ev → Sto → R Bool) : TT := rd X W rpB f
section
variable {X : Cx} {W : WX} {e a b : Expr} {pos : Pos}
theorem PE.by {t t' : TE} (h : PE X e t) (i : ∀ σ H Q, t' σ H Q → t σ H Q) : PE X e t' := ⟨fun pins s σ H Q I q => h.run pins s σ H Q I (i σ H Q q)⟩
theorem PT.by {t t' : TT} (h : PT X e t) (i : ∀ σ H Q, t' σ H Q → t σ H Q) : PT X e t' := ⟨fun pins s σ H Q I q => h.run pins s σ H Q I (i σ H Q q)⟩
theorem PW.by {t t' : TT} (h : PW X e t) (i : ∀ σ H Q, t' σ H Q → t σ H Q) : PW X e t' := ⟨fun wh pins s σ H Q I q => h.run wh pins s σ H Q I (i σ H Q q)⟩
theorem PA.by {es : List Expr} {t t' : TA} (h : PA X es t) (i : ∀ σ H Q, t' σ H Q → t σ H Q) : PA X es t' := ⟨fun p pins s σ H Q I q => h.run p pins s σ H Q I (i σ H Q q)⟩
theorem PS.by {st : Stmt} {t t' : TS} (h : PS X st t) (i : ∀ D σ H, t' D σ H → t D σ H) : PS X st t' := ⟨fun pins s σ H D I q => h.run pins s σ H D I (i D σ H q)⟩
theorem PSs.by {st : List Stmt} {t t' : TS} (h : PSs X st t) (i : ∀ D σ H, t' D σ H → t D σ H) : PSs X st t' := ⟨fun pins s σ H D I q => h.run pins s σ H D I (i D σ H q)⟩
theorem OpR.by {f : Value → Value → Sem Value} {r r' : R2} (h : OpR X f r) (i : ∀ x y H Q, r' x y H Q → r x y H Q) : OpR X f r' := fun pins s σ H x y v u Q I rx ry q => h pins s σ H x y v u Q I rx ry (i x y H Q q)
/-! ### parts in a row -/
theorem rd.bind {α β γ δ : Type} {rp : Rp α β} {rp' : Rp γ δ} {f : Ev → Sto → R α} {k : α → Ev → Sto → R γ} {σ : Sl} {H : Hp} {Q : δ → Hp → Prop} (h : rd X W rp' (fun env st => (f env st).bind fun a st' => k a env st') σ H Q) :
    rd X W rp f σ H fun x H1 => ∃ c1 env st1 a, EnvR X.K c1 st1.length H1 σ env ∧ Wd X.K X.mg c1 H1 st1 ∧ rp c1 st1.length H1 a x ∧ Post X.K X.mg rp' c1 st1.length H1 (fun cls d H' => W cls d σ H') Q (k a env st1) := by
  obtain ⟨c, env, st, er, w, hp⟩ := h
  refine ⟨c, env, st, er, w, (Post.bind hp).mono fun x H1 ⟨c1, st1, a, g, w1, ra, hp1⟩ => ⟨c1, env, st1, a, er.up g, w1, ra, hp1⟩⟩
/-! ### names, constants -/
def fV (i : Nat) : EF := fun env st => match env[i]? with
  | some (some d) => .ok d st
  | _ => .bad
theorem e_v {i : Nat} {x : Str} (hN : X.N[i]? = some x := by rfl) (hv : Vis X.env.scope x := by first | exact Or.inl rfl | exact Or.inr (Or.inl rfl) | exact Or.inr (Or.inr rfl)) (hd : (x == ("__debug__" : Str)) = false := by decide)
    (hcd : (x == ("__classdict__" : Str)) = false := by decide) : PE X (.Name x pos) (rdE X W (fV i)) := by
  refine PE.by (pe_var hN hv hd hcd) fun σ H Q ⟨c, env, st, er, w, hp⟩ => ?_
  unfold fV at hp
  split at hp
  · rename_i d h
    obtain ⟨v, h1, h2⟩ := er.2 i d h
    exact ⟨v, h1, hp c H v .refl w h2⟩
  · exact hp.elim
def fK (d : PyData) : EF := fun _ st => .ok (.p d) st
theorem e_c {v : V} {d : PyData} (h : PE X e (tC v)) (r : ∀ F H, RepP X.K F H d v) : PE X e (rdE X W (fK d)) :=
  PE.by h fun σ H Q ⟨c, env, st, er, w, hp⟩ => hp c H v .refl w (r _ _)
theorem e_int {i : Int} {j : Nat} : PE X (.Constant (.int i) j pos) (rdE X W (fK (.int i))) := e_c pe_int fun _ _ => rfl
theorem e_bl {b : Bool} {j : Nat} : PE X (.Constant (.bool b) j pos) (rdE X W (fK (.bool b))) := e_c pe_bl fun _ _ => rfl
theorem e_non {j : Nat} : PE X (.Constant .none j pos) (rdE X W (fK .none)) := e_c pe_non fun _ _ => rfl
theorem e_str {x : Str} {j : Nat} : PE X (.Constant (.str x) j pos) (rdE X W (fK (.str x))) := e_c pe_str fun _ _ => rfl
/-- a constant of the module: data that stands in the written part -/
theorem e_gl {x : Str} {v : V} {u : Value} {d : PyData} (hm : X.mg x = some u) (r : RelV v u) (rep : ∀ F H, RepP X.K F H d v) (hg : Gl X x := by rfl) (hd : (x == ("__debug__" : Str)) = false := by decide) : PE X (.Name x pos) (rdE X W (fK d)) :=
  e_c (pe_glob hg hm r hd) rep
/-! ### operators by values -/
/-- an operator's reading -/
def vr2 (X : Cx) (g : D → D → Sto → R D) : R2 := fun x y H Q => ∃ c st a b E, Wd X.K X.mg c H st ∧ RepD X.K c st.length H a x ∧ RepD X.K c st.length H b y ∧ Post X.K X.mg (rpD X.K) c st.length H E Q (g a b st)
def vr1 (X : Cx) (g : D → Sto → R D) : V → Hp → VK → Prop := fun x H Q => ∃ c st a E, Wd X.K X.mg c H st ∧ RepD X.K c st.length H a x ∧ Post X.K X.mg (rpD X.K) c st.length H E Q (g a st)
def vrN (X : Cx) (g : List D → Sto → R D) : List V → Hp → VK → Prop := fun xs H Q => ∃ c st as E, Wd X.K X.mg c H st ∧ RepDs X.K c st.length H as xs ∧ Post X.K X.mg (rpD X.K) c st.length H E Q (g as st)
def fB (g : D → D → Sto → R D) (fa fb : EF) : EF := fun env st => (fa env st).bind fun a s1 => (fb env s1).bind fun b s2 => g a b s2
def fU (g : D → Sto → R D) (fa : EF) : EF := fun env st => (fa env st).bind fun a s1 => g a s1
def OpS (X : Cx) (f : Value → Value → Sem Value) (g : D → D → Sto → R D) : Prop := OpR X f (vr2 X g)
theorem rd_two {fa fb : EF} {g : D → D → Sto → R D} {σ : Sl} {H : Hp} {Q : VK} (h : rdE X W (fB g fa fb) σ H Q) : tOp (vr2 X g) (rdE X W fa) (rdE X W fb) σ H Q := by
  obtain ⟨c, env, st, er, w, hp⟩ := h
  exact ⟨c, env, st, er, w, (Post.bind hp).mono fun x H1 ⟨c1, st1, a, g1, w1, ra, hp1⟩ => ⟨c1, env, st1, er.up g1, w1, (Post.bind hp1).mono fun y H2 ⟨c2, st2, b, g2, w2, rb, hp2⟩ =>
    ⟨c2, st2, a, b, _, w2, g2.repD ra, rb, hp2⟩⟩⟩
theorem e_bin {op : Operator} {fa fb : EF} {g : D → D → Sto → R D} (ho : OpS X (binaryOp op) g) (ha : PE X a (rdE X W fa)) (hb : PE X b (rdE X W fb)) : PE X (.BinOp a op b pos) (rdE X W (fB g fa fb)) :=
  PE.by (pe_op ho ha hb) fun _ _ _ h => rd_two h
theorem e_cmp {op : CmpOp} {fa fb : EF} {g : D → D → Sto → R D} (ho : OpS X (compareOp op) g) (ha : PE X a (rdE X W fa)) (hb : PE X b (rdE X W fb)) (hm : behindInMarks op b = false := by first | exact nomark _ | rfl) : PE X (.Compare a [op] [b] pos) (rdE X W (fB g fa fb)) :=
  PE.by (pe_cmpR ho ha hb hm) fun _ _ _ h => rd_two h
theorem e_un {op : UnaryOp} {fa : EF} {g : D → Sto → R D} (ho : UnR X (unaryOp op) (vr1 X g)) (ha : PE X a (rdE X W fa)) : PE X (.UnaryOp op a pos) (rdE X W (fU g fa)) :=
  PE.by (pe_un ho ha) fun σ H Q ⟨c, env, st, er, w, hp⟩ => ⟨c, env, st, er, w, (Post.bind hp).mono fun x H1 ⟨c1, st1, a, g1, w1, ra, hp1⟩ => ⟨c1, st1, a, _, w1, ra, hp1⟩⟩
/-- a < b < c -/
def fCh (g g' : D → D → Sto → R D) (fa fb fc : EF) : EF := fun env st => (fa env st).bind fun a s1 => (fb env s1).bind fun b s2 => (g a b s2).bind fun z s3 =>
  match z with
  | .p (.bool true) => (fc env s3).bind fun c s4 => g' b c s4
  | .p (.bool false) => .ok (.p (.bool false)) s3
  | _ => .bad
end
end MV

set_option Elab.async false
set_option linter.all false
set_option maxRecDepth 100000
set_option maxHeartbeats 400000
namespace MV
open PySem PySem.Spec PyProof.Rows L2
variable [Tbs]
section
variable {K : PySem.W.Frag} {mg : Str → Option Value} {c : Cf} {n : Nat} {F : Addr → Prop} {H : Hp} {st : Sto}
theorem RepPs.len : ∀ {ds : List PyData} {vs : List V}, RepPs K F H ds vs → ds.length = vs.length
  | [], _, h => by have e : _ = [] := h; rw [e]; rfl
  | _ :: _, _, ⟨v, r, e, _, h⟩ => by rw [e, List.length_cons, List.length_cons, RepPs.len h]
theorem RepDs.len : ∀ {ds : List D} {vs : List V}, RepDs K c n H ds vs → ds.length = vs.length
  | [], _, h => by have e : _ = [] := h; rw [e]; rfl
  | _ :: _, _, ⟨v, r, e, _, h⟩ => by rw [e, List.length_cons, List.length_cons, RepDs.len h]
theorem RepKv.len {κ : Type} : ∀ {ds : List (κ × D)} {vs : List (κ × V)}, RepKv K c n H ds vs → ds.length = vs.length
  | [], _, h => by have e : _ = [] := h; rw [e]; rfl
  | (_, _) :: _, _, ⟨v, r, e, _, h⟩ => by rw [e, List.length_cons, List.length_cons, RepKv.len h]
theorem RepPs.get : ∀ {ds : List PyData} {vs : List V} {i : Nat} {d : PyData}, RepPs K F H ds vs → ds[i]? = some d → ∃ v, vs[i]? = some v ∧ RepP K F H d v
  | _ :: _, _, 0, d, ⟨v, r, e, h1, _⟩, q => by
    cases Option.some.inj q
    exact ⟨v, by rw [e]; rfl, h1⟩
  | _ :: _, _, i + 1, d, ⟨v, r, e, _, h2⟩, q => by
    obtain ⟨w, a, b⟩ := RepPs.get (i := i) h2 (by simpa using q)
    exact ⟨w, by rw [e]; simpa using a, b⟩
theorem RepDs.get : ∀ {ds : List D} {vs : List V} {i : Nat} {d : D}, RepDs K c n H ds vs → ds[i]? = some d → ∃ v, vs[i]? = some v ∧ RepD K c n H d v
  | _ :: _, _, 0, d, ⟨v, r, e, h1, _⟩, q => by
    cases Option.some.inj q
    exact ⟨v, by rw [e]; rfl, h1⟩
  | _ :: _, _, i + 1, d, ⟨v, r, e, _, h2⟩, q => by
    obtain ⟨w, a, b⟩ := RepDs.get (i := i) h2 (by simpa using q)
    exact ⟨w, by rw [e]; simpa using a, b⟩
theorem emp {α β : Type} {xs : List α} {ys : List β} (h : xs.length = ys.length) : (!xs.isEmpty) = !ys.isEmpty := by
  cases xs <;> cases ys <;> first | rfl | (simp at h)
theorem Wd.getL (w : Wd K mg c H st) {i : Nat} {ds : List D} (h : st[i]? = some (OB.lst ds)) : ∃ xs, H (c.ad i) = some (HO.lst xs) ∧ RepDs K c st.length H ds xs := w.ob i _ h
theorem Wd.getD (w : Wd K mg c H st) {i : Nat} {ds : List (Key × D)} (h : st[i]? = some (OB.dct ds)) : ∃ xs, H (c.ad i) = some (HO.dK xs) ∧ RepKv K c st.length H ds xs := w.ob i _ h
theorem Post.when {α β : Type} {rp : Rp α β} {E : XK} {Q : β → Hp → Prop} {p : Prop} [Decidable p] {r : R α} (h : Post K mg rp c n H E Q (if p then r else .bad)) : p ∧ Post K mg rp c n H E Q r := by
  by_cases hp : p
  · rw [if_pos hp] at h
    exact ⟨hp, h⟩
  · rw [if_neg hp] at h
    exact h.elim
end
/-! ### truth -/
def truD : D → Sto → R Bool
  | .p .none, st => .ok false st
  | .p (.bool b), st => .ok b st
  | .p (.int i), st => .ok (i != 0) st
  | .p (.str x), st => if x.length ≤ sizeLine then .ok ((x.length : Int) != 0) st else .bad
  | .p (.list xs), st => .ok (!xs.isEmpty) st
  | .p (.tuple xs), st => .ok (!xs.isEmpty) st
  | .p (.dict _), _ => .bad
  | .r i, st => match st[i]? with
    | some (.lst xs) => .ok (!xs.isEmpty) st
    | some (.dct xs) => .ok (!xs.isEmpty) st
    | _ => .bad
  | .sl xs, st => .ok (!xs.isEmpty) st
theorem truV {K : PySem.W.Frag} {mg : Str → Option Value} {c : Cf} {H : Hp} {st : Sto} (w : Wd K mg c H st) {d : D} {v : V} (r : RepD K c st.length H d v) {E : XK} {Q : Bool → Hp → Prop} (h : Post K mg rpB c st.length H E Q (truD d st)) : ∃ k, TruV K v H k ∧ Q k H := by
  cases d with
  | p d =>
    cases d with
    | none => cases r; exact ⟨false, rfl, h c H _ .refl w rfl⟩
    | bool b => cases r; exact ⟨b, rfl, h c H _ .refl w rfl⟩
    | int i => cases r; exact ⟨_, rfl, h c H _ .refl w rfl⟩
    | str x =>
      cases r
      obtain ⟨hl, h⟩ := Post.when (show Post K mg rpB c st.length H E Q (if x.length ≤ sizeLine then .ok ((x.length : Int) != 0) st else .bad) from h)
      exact ⟨_, ⟨hl, rfl⟩, h c H _ .refl w rfl⟩
    | list xs =>
      obtain ⟨a, ys, e, f, r⟩ := r
      subst e
      exact ⟨_, .inl ⟨ys, .of f.2, emp r.len⟩, h c H _ .refl w rfl⟩
    | tuple xs =>
      obtain ⟨a, ys, e, f, r⟩ := r
      subst e
      exact ⟨_, .inr (.inl ⟨ys, f, emp r.len⟩), h c H _ .refl w rfl⟩
    | dict _ => exact h.elim
  | sl xs =>
    obtain ⟨a, ys, e, f, r⟩ := r
    subst e
    exact ⟨_, .inl ⟨ys, f.seq, emp r.len⟩, h c H _ .refl w rfl⟩
  | r i =>
    obtain ⟨hi, e⟩ := r
    subst e
    simp only [truD] at h
    cases hx : st[i]? with
    | none => rw [hx] at h; exact h.elim
    | some o =>
      rw [hx] at h
      cases o with
      | lst xs =>
        obtain ⟨ys, e, r⟩ := w.getL hx
        exact ⟨_, .inl ⟨ys, .of e, emp r.len⟩, h c H _ .refl w rfl⟩
      | dct xs =>
        obtain ⟨ys, e, r⟩ := w.getD hx
        exact ⟨_, .inr (.inr ⟨ys, e, emp r.len⟩), h c H _ .refl w rfl⟩
      | ins _ _ => exact h.elim
section
variable {X : Cx} {W : WX} {e a b c' : Expr} {pos : Pos}
abbrev FT := Ev → Sto → R Bool
def fT (fa : EF) : FT := fun env st => (fa env st).bind truD
theorem t_v {fa : EF} (ha : PE X a (rdE X W fa)) (he : ∀ whole, isTrue a X.env whole = (do let v ← whole; standAt a.pos; holding [v] (truthy v)) := by intro _; rfl) : PT X a (rdT X W (fT fa)) :=
  PT.by (pt_truth ha he) fun σ H Q ⟨c, env, st, er, w, hp⟩ => ⟨c, env, st, er, w, (Post.bind hp).mono fun x H1 ⟨c1, st1, a, g1, w1, ra, hp1⟩ => truV w1 ra hp1⟩
def fNot (fa : FT) : FT := fun env st => (fa env st).bind fun b s => .ok (!b) s
theorem t_not {fa : FT} (ha : PT X a (rdT X W fa)) : PT X (.UnaryOp .Not a pos) (rdT X W (fNot fa)) :=
  PT.by (pt_not ha) fun σ H Q ⟨c, env, st, er, w, hp⟩ => ⟨c, env, st, er, w, (Post.bind hp).mono fun x H1 ⟨c1, st1, a, g1, w1, ra, hp1⟩ => by
    subst ra
    exact hp1 c1 H1 _ .refl w1 rfl⟩
def fAnd (fa fb : FT) : FT := fun env st => (fa env st).bind fun b s => if b then fb env s else .ok false s
def fOr (fa fb : FT) : FT := fun env st => (fa env st).bind fun b s => if b then .ok true s else fb env s
theorem w_and1 {fa : FT} (ha : PT X a (rdT X W fa)) : PW X (.BoolOp .And [a] pos) (rdT X W fa) := pw_and1 ha
theorem w_or1 {fa : FT} (ha : PT X a (rdT X W fa)) : PW X (.BoolOp .Or [a] pos) (rdT X W fa) := pw_or1 ha
theorem w_and {fa fb : FT} {rest : List Expr} (ha : PT X a (rdT X W fa)) (hb : PW X (.BoolOp .And (b :: rest) pos) (rdT X W fb)) : PW X (.BoolOp .And (a :: b :: rest) pos) (rdT X W (fAnd fa fb)) :=
  PW.by (pw_and ha hb) fun σ H Q ⟨c, env, st, er, w, hp⟩ => ⟨c, env, st, er, w, (Post.bind hp).mono fun x H1 ⟨c1, st1, a, g1, w1, ra, hp1⟩ => by
    subst ra
    cases a with
    | true => exact ⟨c1, env, st1, er.up g1, w1, hp1⟩
    | false => exact hp1 c1 H1 _ .refl w1 rfl⟩
theorem w_or {fa fb : FT} {rest : List Expr} (ha : PT X a (rdT X W fa)) (hb : PW X (.BoolOp .Or (b :: rest) pos) (rdT X W fb)) : PW X (.BoolOp .Or (a :: b :: rest) pos) (rdT X W (fOr fa fb)) :=
  PW.by (pw_or ha hb) fun σ H Q ⟨c, env, st, er, w, hp⟩ => ⟨c, env, st, er, w, (Post.bind hp).mono fun x H1 ⟨c1, st1, a, g1, w1, ra, hp1⟩ => by
    subst ra
    cases a with
    | true => exact hp1 c1 H1 _ .refl w1 rfl
    | false => exact ⟨c1, env, st1, er.up g1, w1, hp1⟩⟩
/-- as values -/
def fNotV (fa : EF) : EF := fun env st => (fa env st).bind fun a s => (truD a s).bind fun k s => .ok (.p (.bool (!k))) s
def fAndV (fa fb : EF) : EF := fun env st => (fa env st).bind fun a s => (truD a s).bind fun k s => if k then fb env s else .ok a s
def fOrV (fa fb : EF) : EF := fun env st => (fa env st).bind fun a s => (truD a s).bind fun k s => if k then .ok a s else fb env s
theorem e_not {fa : EF} (ha : PE X a (rdE X W fa)) : PE X (.UnaryOp .Not a pos) (rdE X W (fNotV fa)) :=
  PE.by (pe_notT ha) fun σ H Q ⟨c, env, st, er, w, hp⟩ => ⟨c, env, st, er, w, (Post.bind hp).mono fun x H1 ⟨c1, st1, a, g1, w1, ra, hp1⟩ => by
    obtain ⟨k, tk, q⟩ := truV w1 ra (Post.bind (rp := rpB) hp1)
    obtain ⟨c2, st2, k', g2, w2, e, hp2⟩ := q
    subst e
    exact ⟨_, tk, hp2 c2 H1 _ .refl w2 rfl⟩⟩
theorem e_one {op : BoolOp} {fa : EF} (ha : PE X a (rdE X W fa)) : PE X (.BoolOp op [a] pos) (rdE X W fa) := pe_one ha
theorem e_and {fa fb : EF} {rest : List Expr} (ha : PE X a (rdE X W fa)) (hb : PE X (.BoolOp .And (b :: rest) pos) (rdE X W fb)) : PE X (.BoolOp .And (a :: b :: rest) pos) (rdE X W (fAndV fa fb)) :=
  PE.by (pe_andT ha hb) fun σ H Q ⟨c, env, st, er, w, hp⟩ => ⟨c, env, st, er, w, (Post.bind hp).mono fun x H1 ⟨c1, st1, a, g1, w1, ra, hp1⟩ => by
    obtain ⟨k, tk, q⟩ := truV w1 ra (Post.bind (rp := rpB) hp1)
    obtain ⟨c2, st2, k', g2, w2, e, hp2⟩ := q
    subst e
    refine ⟨_, tk, ?_⟩
    cases k' with
    | true => exact ⟨c2, env, st2, (er.up g1).up g2, w2, hp2⟩
    | false => exact hp2 c2 H1 _ .refl w2 (g2.repD ra)⟩
theorem e_or {fa fb : EF} {rest : List Expr} (ha : PE X a (rdE X W fa)) (hb : PE X (.BoolOp .Or (b :: rest) pos) (rdE X W fb)) : PE X (.BoolOp .Or (a :: b :: rest) pos) (rdE X W (fOrV fa fb)) :=
  PE.by (pe_orT ha hb) fun σ H Q ⟨c, env, st, er, w, hp⟩ => ⟨c, env, st, er, w, (Post.bind hp).mono fun x H1 ⟨c1, st1, a, g1, w1, ra, hp1⟩ => by
    obtain ⟨k, tk, q⟩ := truV w1 ra (Post.bind (rp := rpB) hp1)
    obtain ⟨c2, st2, k', g2, w2, e, hp2⟩ := q
    subst e
    refine ⟨_, tk, ?_⟩
    cases k' with
    | true => exact hp2 c2 H1 _ .refl w2 (g2.repD ra)
    | false => exact ⟨c2, env, st2, (er.up g1).up g2, w2, hp2⟩⟩
def fIf (ft : FT) (fa fb : EF) : EF := fun env st => (ft env st).bind fun k s => if k then fa env s else fb env s
theorem e_if {ft : FT} {fa fb : EF} (ht : PT X c' (rdT X W ft)) (ha : PE X a (rdE X W fa)) (hb : PE X b (rdE X W fb)) : PE X (.IfExp c' a b pos) (rdE X W (fIf ft fa fb)) :=
  PE.by (pe_ifExp ht ha hb) fun σ H Q ⟨c, env, st, er, w, hp⟩ => ⟨c, env, st, er, w, (Post.bind hp).mono fun x H1 ⟨c1, st1, k, g1, w1, ra, hp1⟩ => by
    subst ra
    cases k with
    | true => exact ⟨c1, env, st1, er.up g1, w1, hp1⟩
    | false => exact ⟨c1, env, st1, er.up g1, w1, hp1⟩⟩
theorem e_chain {op op' : CmpOp} {fa fb fc : EF} {g g' : D → D → Sto → R D} (ho : OpS X (compareOp op) g) (ho' : OpS X (compareOp op') g') (ha : PE X a (rdE X W fa)) (hb : PE X b (rdE X W fb)) (hc : PE X c' (rdE X W fc))
    (hm : lastMarks [op, op'] [b, c'] = false := by with_unfolding_all rfl) : PE X (.Compare a [op, op'] [b, c'] pos) (rdE X W (fCh g g' fa fb fc)) :=
  PE.by (pe_chain ho ho' ha hb hc hm) fun σ H Q ⟨c, env, st, er, w, hp⟩ =>
    ⟨c, env, st, er, w, (Post.bind hp).mono fun x H1 ⟨c1, st1, a, g1, w1, ra, hp1⟩ => ⟨c1, env, st1, er.up g1, w1, (Post.bind hp1).mono fun y H2 ⟨c2, st2, b, g2, w2, rb, hp2⟩ =>
      ⟨c2, st2, a, b, _, w2, g2.repD ra, rb, (Post.bind (rp := rpD X.K) hp2).mono fun z H3 ⟨c3, st3, d, g3, w3, rz, hp3⟩ => by
        cases d with
        | r _ => exact hp3.elim
        | sl _ => exact hp3.elim
        | p d =>
          cases d with
          | bool k =>
            cases k with
            | true =>
              cases rz
              exact ⟨true, rfl, c3, env, st3, ((er.up g1).up g2).up g3, w3, (Post.bind hp3).mono fun y' H4 ⟨c4, st4, b', g4, w4, rb', hp4⟩ => ⟨c4, st4, b, b', _, w4, g4.repD (g3.repD rb), rb', hp4⟩⟩
            | false =>
              cases rz
              exact ⟨false, rfl, hp3 c3 H3 _ .refl w3 rfl⟩
          | none => exact hp3.elim
          | int _ => exact hp3.elim
          | str _ => exact hp3.elim
          | list _ => exact hp3.elim
          | tuple _ => exact hp3.elim
          | dict _ => exact hp3.elim⟩⟩⟩
end
end MV

set_option Elab.async false
set_option linter.all false
set_option maxRecDepth 100000
set_option maxHeartbeats 400000
namespace MV
open PySem PySem.Spec PyProof.Rows L2
variable [Tbs]
/-- a line that all lengths stay under -/
abbrev lineN : Nat := 1000000
theorem line_le {n : Nat} (h : n ≤ lineN) : n ≤ sizeLine := by
  rw [sizeLine_eq]
  exact Nat.le_trans h (by decide)
/-! ### arguments, displays -/
abbrev FA := Ev → Sto → R (List D)
def fNil : FA := fun _ st => .ok [] st
def fCons (f : EF) (r : FA) : FA := fun env st => (f env st).bind fun a s => (r env s).bind fun as s' => .ok (a :: as) s'
section
variable {X : Cx} {W : WX} {e a b : Expr} {es : List Expr} {pos : Pos}
theorem a_nil : PA X [] (rdA X W fNil) := PA.by pa_nil fun σ H Q ⟨c, env, st, er, w, hp⟩ => hp c H [] .refl w rfl
theorem a_cons {f : EF} {r : FA} (he : PE X e (rdE X W f)) (hr : PA X es (rdA X W r)) (hs : starEach (e :: es) X.env = (false, eval e X.env) :: starEach es X.env := by rfl) : PA X (e :: es) (rdA X W (fCons f r)) :=
  PA.by (pa_cons he hr hs) fun σ H Q ⟨c, env, st, er, w, hp⟩ => ⟨c, env, st, er, w, (Post.bind hp).mono fun x H1 ⟨c1, st1, a, g1, w1, ra, hp1⟩ =>
    ⟨c1, env, st1, er.up g1, w1, (Post.bind (rp := rpL X.K) hp1).mono fun xs H2 ⟨c2, st2, as, g2, w2, ras, hp2⟩ => hp2 c2 H2 _ .refl w2 ⟨_, _, rfl, g2.repD ra, ras⟩⟩⟩
end
/-- all are pure data -/
def allP : List D → Option (List PyData)
  | [] => some []
  | .p d :: r => (allP r).map (d :: ·)
  | _ :: _ => none
@[simp] theorem allP_nil : allP [] = some [] := rfl
@[simp] theorem allP_cons (d : PyData) (r : List D) : allP (.p d :: r) = (allP r).map (d :: ·) := rfl
@[simp] theorem allP_map (ds : List PyData) : allP (ds.map D.p) = some ds := by
  induction ds with
  | nil => rfl
  | cons d r ih => simp [ih]
theorem allP_rep {K : PySem.W.Frag} {c : Cf} {n : Nat} {H : Hp} : ∀ {ds : List D} {ps : List PyData} {vs : List V}, allP ds = some ps → RepDs K c n H ds vs → RepPs K c.F H ps vs
  | [], _, _, e, r => by cases e; exact r
  | .p d :: ds, ps, vs, e, ⟨v, r, ev, h1, h2⟩ => by
    rw [allP_cons] at e
    cases h : allP ds with
    | none => rw [h] at e; cases e
    | some qs =>
      rw [h] at e
      cases e
      exact ⟨v, r, ev, h1, allP_rep h h2⟩
  | .r _ :: _, _, _, e, _ => by cases e
  | .sl _ :: _, _, _, e, _ => by cases e
theorem rep_all {K : PySem.W.Frag} {c : Cf} {n : Nat} {H : Hp} : ∀ {ps : List PyData} {vs : List V}, RepPs K c.F H ps vs → RepDs K c n H (ps.map D.p) vs
  | [], _, r => r
  | _ :: _, _, ⟨v, r, ev, h1, h2⟩ => ⟨v, r, ev, h1, rep_all h2⟩
def mkTup (ds : List D) (st : Sto) : R D := match allP ds with
  | some ps => if ps.length ≤ lineN then .ok (.p (.tuple ps)) st else .bad
  | none => .bad
def mkLst (ds : List D) (st : Sto) : R D := match allP ds with
  | some ps => if ps.length ≤ lineN then .ok (.p (.list ps)) st else .bad
  | none => .bad
def mkRef (ds : List D) (st : Sto) : R D := if ds.length ≤ lineN then .ok (.r st.length) (st ++ [.lst ds]) else .bad
section
variable {K : PySem.W.Frag} {mg : Str → Option Value} {c : Cf} {H : Hp} {st : Sto} {E : XK} {Q : VK}
/-- a new tuple -/
theorem new_tup (w : Wd K mg c H st) {ps : List PyData} {vs : List V} (r : RepPs K c.F H ps vs) (h : Post K mg (rpD K) c st.length H E Q (.ok (.p (.tuple ps)) st)) : ∀ p, H p = none → Q (.ref p) (upd H p (.tup vs)) := fun p hp =>
  h c _ _ (w.grow hp _) (w.fresh hp _) ⟨p, vs, rfl, .of upd_same, (w.grow hp _).repPs ps vs r⟩
/-- a new frozen list -/
theorem new_lst (w : Wd K mg c H st) {ps : List PyData} {vs : List V} (r : RepPs K c.F H ps vs) (h : Post K mg (rpD K) c st.length H E Q (.ok (.p (.list ps)) st)) : ∀ p, H p = none → Q (.ref p) (upd H p (.lst vs)) := fun p hp =>
  h (c.plusF p) _ _ (w.growF hp _) (w.freshF hp _) ⟨p, vs, rfl, ⟨.inl rfl, upd_same⟩, (w.growF hp _).repPs ps vs r⟩
/-- a new list of the store -/
theorem new_ref (w : Wd K mg c H st) {ds : List D} {vs : List V} (r : RepDs K c st.length H ds vs) (h : Post K mg (rpD K) c st.length H E Q (.ok (.r st.length) (st ++ [.lst ds]))) : ∀ p, H p = none → Q (.ref p) (upd H p (.lst vs)) := fun p hp => by
  have g := w.growR hp (.lst vs)
  refine h (c.plusR st.length p) _ _ ?_ (w.freshR hp ⟨vs, upd_same, g.repDs r⟩) ⟨by simp, by rw [Cf.plusR_at]⟩
  rw [List.length_append, List.length_singleton]
  exact g
end
def fTup (fa : FA) : EF := fun env st => (fa env st).bind mkTup
def fLst (fa : FA) : EF := fun env st => (fa env st).bind mkLst
def fRef (fa : FA) : EF := fun env st => (fa env st).bind mkRef
section
variable {X : Cx} {W : WX} {e a b : Expr} {es : List Expr} {pos : Pos}
theorem e_tup {fa : FA} {k} (ha : PA X es (rdA X W fa)) : PE X (.Tuple es k pos) (rdE X W (fTup fa)) :=
  PE.by (pe_tup ha) fun σ H Q ⟨c, env, st, er, w, hp⟩ => ⟨c, env, st, er, w, (Post.bind hp).mono fun xs H1 ⟨c1, st1, as, g1, w1, ra, hp1⟩ => by
    unfold mkTup at hp1
    cases h : allP as with
    | none => rw [h] at hp1; exact hp1.elim
    | some ps =>
      rw [h] at hp1
      have rp := allP_rep h ra
      obtain ⟨hl, hp1⟩ := Post.when hp1
      exact ⟨line_le (by rw [← rp.len]; exact hl), new_tup w1 rp hp1⟩⟩
theorem e_lst {fa : FA} (ha : PA X es (rdA X W fa)) : PE X (.List es pos) (rdE X W (fLst fa)) :=
  PE.by (pe_lst ha) fun σ H Q ⟨c, env, st, er, w, hp⟩ => ⟨c, env, st, er, w, (Post.bind hp).mono fun xs H1 ⟨c1, st1, as, g1, w1, ra, hp1⟩ => by
    unfold mkLst at hp1
    cases h : allP as with
    | none => rw [h] at hp1; exact hp1.elim
    | some ps =>
      rw [h] at hp1
      have rp := allP_rep h ra
      obtain ⟨hl, hp1⟩ := Post.when hp1
      exact ⟨line_le (by rw [← rp.len]; exact hl), new_lst w1 rp hp1⟩⟩
theorem e_ref {fa : FA} (ha : PA X es (rdA X W fa)) : PE X (.List es pos) (rdE X W (fRef fa)) :=
  PE.by (pe_lst ha) fun σ H Q ⟨c, env, st, er, w, hp⟩ => ⟨c, env, st, er, w, (Post.bind hp).mono fun xs H1 ⟨c1, st1, as, g1, w1, ra, hp1⟩ => by
    obtain ⟨hl, hp1⟩ := Post.when hp1
    exact ⟨line_le (by rw [← ra.len]; exact hl), new_ref w1 ra hp1⟩⟩
end
/-! ### operators on whole numbers and others -/
def addD : D → D → Sto → R D
  | .p (.int i), .p (.int j), st => .ok (.p (.int (i + j))) st
  | .p (.str x), .p (.str y), st => if x.length + y.length ≤ lineN then .ok (.p (.str (x ++ y))) st else .bad
  | .p (.tuple x), .p (.tuple y), st => if x.length + y.length ≤ lineN then .ok (.p (.tuple (x ++ y))) st else .bad
  | .p (.list x), .p (.list y), st => if x.length + y.length ≤ lineN then .ok (.p (.list (x ++ y))) st else .bad
  | _, _, _ => .bad
theorem RepPs.app {K : PySem.W.Frag} {F : Addr → Prop} {H : Hp} : ∀ {ds es : List PyData} {xs ys : List V}, RepPs K F H ds xs → RepPs K F H es ys → RepPs K F H (ds ++ es) (xs ++ ys)
  | [], _, _, _, h, h' => by have e : _ = [] := h; rw [e]; exact h'
  | _ :: _, _, _, _, ⟨v, r, e, h1, h2⟩, h' => by rw [e]; exact ⟨v, _, rfl, h1, RepPs.app h2 h'⟩
theorem RepPs.nil_of {K : PySem.W.Frag} {F : Addr → Prop} {H : Hp} {ds : List PyData} {xs : List V} (h : RepPs K F H ds xs) : xs = [] ↔ ds = [] := by
  rw [← List.length_eq_zero_iff, ← List.length_eq_zero_iff, h.len]
section
variable {X : Cx}
theorem s_add : OpS X (binaryOp .Add) addD := by
  refine OpR.by (OpR.or op_add (OpR.or op_add_str (OpR.or op_catA op_cat))) ?_
  rintro x y H Q ⟨c, st, a, b, E, w, ra, rb, h⟩
  cases a with
  | r _ => exact h.elim
  | sl _ => exact h.elim
  | p a =>
    cases b with
    | r _ => cases a <;> exact h.elim
    | sl _ => cases a <;> exact h.elim
    | p b =>
      cases a with
      | none => exact h.elim
      | bool _ => exact h.elim
      | dict _ => exact h.elim
      | int i =>
        cases b with
        | int j => cases ra; cases rb; exact .inl ⟨i, j, rfl, rfl, h c H _ .refl w rfl⟩
        | _ => exact h.elim
      | str i =>
        cases b with
        | str j =>
          cases ra
          cases rb
          obtain ⟨hl, h⟩ := Post.when (show Post _ _ _ _ _ _ _ _ (if i.length + j.length ≤ lineN then _ else .bad) from h)
          exact .inr (.inl ⟨i, j, rfl, rfl, line_le hl, h c H _ .refl w rfl⟩)
        | _ => exact h.elim
      | tuple i =>
        cases b with
        | tuple j =>
          obtain ⟨p, xs, rfl, sp, rp⟩ := ra
          obtain ⟨q, ys, rfl, sq, rq⟩ := rb
          obtain ⟨hl, h⟩ := Post.when (show Post _ _ _ _ _ _ _ _ (if i.length + j.length ≤ lineN then _ else .bad) from h)
          refine .inr (.inr (.inl ⟨p, q, xs, ys, rfl, rfl, sp, sq, line_le (by rw [← rp.len, ← rq.len]; exact hl), fun e => ?_, fun _ e => ?_, fun _ _ => new_tup w (rp.app rq) h⟩))
          · rw [rp.nil_of] at e
            subst e
            exact h c H _ .refl w ⟨q, ys, rfl, sq, rq⟩
          · rw [rq.nil_of] at e
            subst e
            exact h c H _ .refl w ⟨p, xs, rfl, sp, by rw [List.append_nil]; exact rp⟩
        | _ => exact h.elim
      | list i =>
        cases b with
        | list j =>
          obtain ⟨p, xs, rfl, sp, rp⟩ := ra
          obtain ⟨q, ys, rfl, sq, rq⟩ := rb
          obtain ⟨hl, h⟩ := Post.when (show Post _ _ _ _ _ _ _ _ (if i.length + j.length ≤ lineN then _ else .bad) from h)
          exact .inr (.inr (.inr ⟨p, q, xs, ys, rfl, rfl, sp.2, sq.2, line_le (by rw [← rp.len, ← rq.len]; exact hl), new_lst w (rp.app rq) h⟩))
        | _ => exact h.elim
/-- an operator on two whole numbers -/
def intD (C : Int → Int → Prop) [∀ i j, Decidable (C i j)] (f : Int → Int → PyData) : D → D → Sto → R D
  | .p (.int i), .p (.int j), st => if C i j then .ok (.p (f i j)) st else .bad
  | _, _, _ => .bad
theorem s_int {o : Value → Value → Sem Value} {C C' : Int → Int → Prop} [∀ i j, Decidable (C i j)] {f : Int → Int → PyData} {g : Int → Int → V} (ho : OpR X o (rI C' g)) (hC : ∀ i j, C i j → C' i j) (hr : ∀ F H i j, RepP X.K F H (f i j) (g i j)) : OpS X o (intD C f) := by
  refine OpR.by ho ?_
  rintro x y H Q ⟨c, st, a, b, E, w, ra, rb, h⟩
  cases a with
  | r _ => exact h.elim
  | sl _ => exact h.elim
  | p a =>
    cases b with
    | r _ => cases a <;> exact h.elim
    | sl _ => cases a <;> exact h.elim
    | p b =>
      cases a with
      | int i =>
        cases b with
        | int j =>
          cases ra
          cases rb
          obtain ⟨hl, h⟩ := Post.when (show Post _ _ _ _ _ _ _ _ (if C i j then _ else .bad) from h)
          exact ⟨i, j, rfl, rfl, hC i j hl, h c H _ .refl w (hr _ _ i j)⟩
        | _ => exact h.elim
      | _ => exact h.elim
abbrev yes2 : Int → Int → Prop := fun _ _ => True
theorem rI_of {o : Value → Value → Sem Value} {g : Int → Int → V} (h : OpR X o (rI0 g)) : OpR X o (rI yes2 g) := OpR.by h fun x y H Q ⟨i, j, a, b, _, q⟩ => ⟨i, j, a, b, q⟩
abbrev subD := intD yes2 fun i j => .int (i - j)
abbrev ltD := intD yes2 fun i j => .bool (decide (i < j))
abbrev leD := intD yes2 fun i j => .bool (decide (i ≤ j))
abbrev gtD := intD yes2 fun i j => .bool (decide (j < i))
abbrev geD := intD yes2 fun i j => .bool (decide (j ≤ i))
theorem s_sub : OpS X (binaryOp .Sub) subD := s_int (rI_of op_sub) (fun _ _ h => h) fun _ _ _ _ => rfl
theorem s_lt : OpS X (compareOp .Lt) ltD := s_int (rI_of op_lt) (fun _ _ h => h) fun _ _ _ _ => rfl
theorem s_le : OpS X (compareOp .LtE) leD := s_int (rI_of op_le) (fun _ _ h => h) fun _ _ _ _ => rfl
theorem s_gt : OpS X (compareOp .Gt) gtD := s_int (rI_of op_gt) (fun _ _ h => h) fun _ _ _ _ => rfl
theorem s_ge : OpS X (compareOp .GtE) geD := s_int (rI_of op_ge) (fun _ _ h => h) fun _ _ _ _ => rfl
/-- one factor between -2^63 and 2^63 -/
def mulOk (i j : Int) : Prop := (-9223372036854775808 ≤ i ∧ i ≤ 9223372036854775808) ∨ (-9223372036854775808 ≤ j ∧ j ≤ 9223372036854775808)
instance (i j : Int) : Decidable (mulOk i j) := by unfold mulOk; exact inferInstance
def divOk (_ j : Int) : Prop := 0 < j ∧ j ≤ 1000000000
instance (i j : Int) : Decidable (divOk i j) := by unfold divOk; exact inferInstance
def modOk (_ j : Int) : Prop := 0 < j
instance (i j : Int) : Decidable (modOk i j) := by unfold modOk; exact inferInstance
def powOk (i j : Int) : Prop := 0 ≤ j ∧ j ≤ 100 ∧ 0 ≤ i ∧ i ≤ 1000
instance (i j : Int) : Decidable (powOk i j) := by unfold powOk; exact inferInstance
abbrev mulI := intD mulOk fun i j => .int (i * j)
abbrev divD := intD divOk fun i j => .int (i / j)
abbrev modD := intD modOk fun i j => .int (i % j)
abbrev powD := intD powOk fun i j => .int (i ^ j.toNat)
theorem s_mul : OpS X (binaryOp .Mult) mulI := s_int op_mul (fun i j h => by unfold mulOk at h; show _ ∨ _; omega) fun _ _ _ _ => rfl
theorem s_div : OpS X (binaryOp .FloorDiv) divD := s_int op_fdiv (fun i j h => by unfold divOk at h; show _ ∧ _; omega) fun _ _ _ _ => rfl
theorem s_mod : OpS X (binaryOp .Mod) modD := s_int op_mod (fun i j h => h) fun _ _ _ _ => rfl
theorem s_pow : OpS X (binaryOp .Pow) powD := s_int op_pow (fun i j h => by unfold powOk at h; show _ ∧ _ ∧ _; omega) fun _ _ _ _ => rfl
def negD : D → Sto → R D
  | .p (.int i), st => .ok (.p (.int (-i))) st
  | _, _ => .bad
theorem UnR.by {f : Value → Sem Value} {r r' : V → Hp → VK → Prop} (h : UnR X f r) (i : ∀ x H Q, r' x H Q → r x H Q) : UnR X f r' := fun pins s σ H x v Q I rx q => h pins s σ H x v Q I rx (i x H Q q)
theorem s_neg : UnR X (unaryOp .USub) (vr1 X negD) := by
  refine UnR.by un_neg ?_
  rintro x H Q ⟨c, st, a, E, w, ra, h⟩
  cases a with
  | r _ => exact h.elim
  | sl _ => exact h.elim
  | p a =>
    cases a with
    | int i => cases ra; exact ⟨i, rfl, h c H _ .refl w rfl⟩
    | _ => exact h.elim
end
end MV

set_option Elab.async false
set_option linter.all false
set_option maxRecDepth 100000
set_option maxHeartbeats 400000
namespace MV
open PySem PySem.Spec PyProof.Rows L2
variable [Tbs]
/-! ### what a value is as data; as a sequence of values -/
/-- a value as pure data -/
def dat (st : Sto) : D → Option PyData
  | .p d => some d
  | .sl ds => some (.list ds)
  | .r i => match st[i]? with
    | some (.lst ds) => (allP ds).map .list
    | _ => none
/-- the items of a list or a tuple; whether it is a tuple -/
def itemsD (st : Sto) : D → Option (List D)
  | .p (.list ds) => some (ds.map .p)
  | .p (.tuple ds) => some (ds.map .p)
  | .sl ds => some (ds.map .p)
  | .r i => match st[i]? with
    | some (.lst ds) => some ds
    | _ => none
  | _ => none
section
variable {K : PySem.W.Frag} {mg : Str → Option Value} {c : Cf} {n : Nat} {H : Hp} {st : Sto} {E : XK} {Q : VK}
/-- a list or a tuple that stands -/
def SqA (K : PySem.W.Frag) (H : Hp) (a : Addr) (xs : List V) : Prop := SqL K H a xs ∨ SqT K H a xs
theorem items_rep (w : Wd K mg c H st) {d : D} {v : V} {ds : List D} (r : RepD K c st.length H d v) (h : itemsD st d = some ds) : ∃ a xs, v = .ref a ∧ SqA K H a xs ∧ RepDs K c st.length H ds xs := by
  cases d with
  | p d =>
    cases d with
    | list es =>
      cases h
      obtain ⟨a, xs, e, f, r⟩ := r
      exact ⟨a, xs, e, .inl (.of f.2), rep_all r⟩
    | tuple es =>
      cases h
      obtain ⟨a, xs, e, f, r⟩ := r
      exact ⟨a, xs, e, .inr f, rep_all r⟩
    | _ => cases h
  | sl es =>
    cases h
    obtain ⟨a, xs, e, f, r⟩ := r
    exact ⟨a, xs, e, .inl f.seq, rep_all r⟩
  | r i =>
    obtain ⟨hi, e⟩ := r
    simp only [itemsD] at h
    cases hx : st[i]? with
    | none => rw [hx] at h; cases h
    | some o =>
      rw [hx] at h
      cases o with
      | lst es =>
        cases h
        obtain ⟨xs, e', r⟩ := w.getL hx
        exact ⟨_, xs, e, .inl (.of e'), r⟩
      | _ => cases h
mutual
theorem Dp_of : ∀ {d : PyData} {v : V}, RepP K c.F H d v → Dp K H v d
  | .none, _, h => by cases h; exact .non
  | .bool b, _, h => by cases h; exact .bl b
  | .int i, _, h => by cases h; exact .int i
  | .str s, _, h => by cases h; exact .str s
  | .list ds, _, ⟨a, xs, e, f, r⟩ => by subst e; exact .lst (.of f.2) (Dps_of r)
  | .tuple ds, _, ⟨a, xs, e, f, r⟩ => by subst e; exact .tup f (Dps_of r)
theorem Dps_of : ∀ {ds : List PyData} {vs : List V}, RepPs K c.F H ds vs → DpAll K H vs ds
  | [], _, h => by have e : _ = [] := h; subst e; exact .nil
  | d :: ds, _, ⟨v, r, e, h1, h2⟩ => by subst e; exact .cons (Dp_of h1) (Dps_of h2)
end
theorem dat_rep (w : Wd K mg c H st) {d : D} {v : V} {e : PyData} (r : RepD K c st.length H d v) (h : dat st d = some e) : Dp K H v e := by
  cases d with
  | p d => cases h; exact Dp_of r
  | sl es =>
    cases h
    obtain ⟨a, xs, e, f, r⟩ := r
    subst e
    exact .lst f.seq (Dps_of r)
  | r i =>
    obtain ⟨hi, e⟩ := r
    simp only [dat] at h
    cases hx : st[i]? with
    | none => rw [hx] at h; cases h
    | some o =>
      rw [hx] at h
      cases o with
      | lst es =>
        obtain ⟨xs, e', r⟩ := w.getL hx
        cases ha : allP es with
        | none => simp only [ha] at h; cases h
        | some ps =>
          simp only [ha] at h
          cases h
          subst e
          exact .lst (.of e') (Dps_of (allP_rep ha r))
      | _ => cases h
end
/-! ### == and != -/
def eqG (neg : Bool) (a b : D) (st : Sto) : R D := match dat st a, dat st b with
  | some d, some e => if SeqAt.shaped d = true ∧ SeqAt.shaped e = true then .ok (.p (.bool (if neg then !PyData.eqv d e else PyData.eqv d e))) st else .bad
  | _, _ => .bad
def eqD (neg : Bool) (a b : D) (st : Sto) : R D := match a, b with
  | .p (.str x), .p (.str y) => .ok (.p (.bool (if neg then !decide (x = y) else decide (x = y)))) st
  | a, b => eqG neg a b st
section
variable {X : Cx}
theorem eqG_ok {c : Cf} {st : Sto} {a b : D} {E : XK} {neg : Bool} {x y : V} {H : Hp} {Q : VK} (w : Wd X.K X.mg c H st) (ra : RepD X.K c st.length H a x) (rb : RepD X.K c st.length H b y) (h : Post X.K X.mg (rpD X.K) c st.length H E Q (eqG neg a b st)) :
    ∃ d e, Dp X.K H x d ∧ Dp X.K H y e ∧ SeqAt.shaped d = true ∧ SeqAt.shaped e = true ∧ Q (.bl (if neg then !PyData.eqv d e else PyData.eqv d e)) H := by
  unfold eqG at h
  cases h1 : dat st a with
  | none => rw [h1] at h; exact h.elim
  | some d =>
    cases h2 : dat st b with
    | none => rw [h1, h2] at h; exact h.elim
    | some e =>
      rw [h1, h2] at h
      obtain ⟨⟨s1, s2⟩, h⟩ := Post.when h
      exact ⟨d, e, dat_rep w ra h1, dat_rep w rb h2, s1, s2, h c H _ .refl w rfl⟩
theorem eqD_ok {c : Cf} {st : Sto} {a b : D} {E : XK} {neg : Bool} {x y : V} {H : Hp} {Q : VK} (w : Wd X.K X.mg c H st) (ra : RepD X.K c st.length H a x) (rb : RepD X.K c st.length H b y) (h : Post X.K X.mg (rpD X.K) c st.length H E Q (eqD neg a b st)) :
    (∃ s t, x = .str s ∧ y = .str t ∧ Q (.bl (if neg then !decide (s = t) else decide (s = t))) H) ∨
    ∃ d e, Dp X.K H x d ∧ Dp X.K H y e ∧ SeqAt.shaped d = true ∧ SeqAt.shaped e = true ∧ Q (.bl (if neg then !PyData.eqv d e else PyData.eqv d e)) H := by
  unfold eqD at h
  split at h
  · cases ra
    cases rb
    exact .inl ⟨_, _, rfl, rfl, h c H _ .refl w rfl⟩
  · exact .inr (eqG_ok w ra rb h)
theorem s_eq (hu : X.A.units + 64 < cLine) : OpS X (compareOp .Eq) (eqD false) := by
  refine OpR.by (OpR.or op_eq (op_eqD hu)) ?_
  rintro x y H Q ⟨c, st, a, b, E, w, ra, rb, h⟩
  rcases eqD_ok w ra rb h with ⟨s, t, rfl, rfl, q⟩ | ⟨d, e, h1, h2, h3, h4, q⟩
  · refine .inl ⟨rfl, ?_⟩
    rw [show decide (V.str s = V.str t) = decide (s = t) from decide_eq_decide.mpr ⟨fun e => V.str.inj e, fun e => by rw [e]⟩]
    exact q
  · exact .inr ⟨d, e, h1, h2, h3, h4, q⟩
theorem s_ne (hu : X.A.units + 64 < cLine) : OpS X (compareOp .NotEq) (eqD true) := by
  refine OpR.by (OpR.or op_ne (op_neD hu)) ?_
  rintro x y H Q ⟨c, st, a, b, E, w, ra, rb, h⟩
  rcases eqD_ok w ra rb h with ⟨s, t, rfl, rfl, q⟩ | ⟨d, e, h1, h2, h3, h4, q⟩
  · refine .inl ⟨rfl, ?_⟩
    rw [show decide (V.str s = V.str t) = decide (s = t) from decide_eq_decide.mpr ⟨fun e => V.str.inj e, fun e => by rw [e]⟩]
    exact q
  · exact .inr ⟨d, e, h1, h2, h3, h4, q⟩
end
/-! ### is -/
def isNonD : D → Bool
  | .p .none => true
  | _ => false
theorem isNon_rep {K : PySem.W.Frag} {c : Cf} {n : Nat} {H : Hp} {d : D} {v : V} (r : RepD K c n H d v) : decide (v = .non) = isNonD d := by
  cases d with
  | p d =>
    cases d with
    | none => cases r; rfl
    | bool _ => cases r; rfl
    | int _ => cases r; rfl
    | str _ => cases r; rfl
    | list _ => obtain ⟨a, _, e, _⟩ := r; subst e; rfl
    | tuple _ => obtain ⟨a, _, e, _⟩ := r; subst e; rfl
    | dict _ => exact r.elim
  | r i => obtain ⟨_, e⟩ := r; subst e; rfl
  | sl _ => obtain ⟨a, _, e, _⟩ := r; subst e; rfl
/-- a is None, True, False -/
def isD (neg : Bool) (a b : D) (st : Sto) : R D := match b with
  | .p .none => .ok (.p (.bool (if neg then !isNonD a else isNonD a))) st
  | .p (.bool k) => match a with
    | .p (.bool j) => .ok (.p (.bool (if neg then !decide (j = k) else decide (j = k)))) st
    | _ => .bad
  | _ => .bad
section
variable {X : Cx}
theorem isD_ok {c : Cf} {st : Sto} {a b : D} {E : XK} {neg : Bool} {x y : V} {H : Hp} {Q : VK} (w : Wd X.K X.mg c H st) (ra : RepD X.K c st.length H a x) (rb : RepD X.K c st.length H b y) (h : Post X.K X.mg (rpD X.K) c st.length H E Q (isD neg a b st)) :
    (y = .non ∧ Q (.bl (if neg then !decide (x = .non) else decide (x = .non))) H) ∨ ∃ j k, x = .bl j ∧ y = .bl k ∧ Q (.bl (if neg then !decide (j = k) else decide (j = k))) H := by
  cases b with
  | r _ => exact h.elim
  | sl _ => exact h.elim
  | p b =>
    cases b with
    | none =>
      cases rb
      refine .inl ⟨rfl, ?_⟩
      rw [isNon_rep ra]
      exact h c H _ .refl w rfl
    | bool k =>
      cases rb
      cases a with
      | r _ => exact h.elim
      | sl _ => exact h.elim
      | p a =>
        cases a with
        | bool j => cases ra; exact .inr ⟨j, k, rfl, rfl, h c H _ .refl w rfl⟩
        | _ => exact h.elim
    | _ => exact h.elim
theorem s_is : OpS X (compareOp .Is) (isD false) := by
  refine OpR.by (OpR.or op_isN op_isBl) ?_
  rintro x y H Q ⟨c, st, a, b, E, w, ra, rb, h⟩
  rcases isD_ok w ra rb h with ⟨rfl, q⟩ | ⟨j, k, rfl, rfl, q⟩
  · exact .inl ⟨rfl, q⟩
  · exact .inr ⟨j, k, rfl, rfl, q⟩
theorem s_isn : OpS X (compareOp .IsNot) (isD true) := by
  refine OpR.by (OpR.or op_notN op_notBl) ?_
  rintro x y H Q ⟨c, st, a, b, E, w, ra, rb, h⟩
  rcases isD_ok w ra rb h with ⟨rfl, q⟩ | ⟨j, k, rfl, rfl, q⟩
  · exact .inl ⟨rfl, q⟩
  · exact .inr ⟨j, k, rfl, rfl, q⟩
end
/-! ### subscripts -/
def ixD (a b : D) (st : Sto) : R D := match b with
  | .p (.int i) => match itemsD st a with
    | some ds => match atI ds i with
      | some d => .ok d st
      | none => .bad
    | none => .bad
  | _ => .bad
theorem atI_rep {K : PySem.W.Frag} {c : Cf} {n : Nat} {H : Hp} {ds : List D} {xs : List V} {i : Int} {d : D} (r : RepDs K c n H ds xs) (h : atI ds i = some d) : ∃ v, atI xs i = some v ∧ RepD K c n H d v := by
  unfold atI at h ⊢
  rw [← r.len]
  cases hj : ixN ds.length i with
  | none => rw [hj] at h; cases h
  | some j =>
    rw [hj] at h
    obtain ⟨v, e, q⟩ := r.get (i := j) h
    exact ⟨v, e, q⟩
section
variable {X : Cx} {W : WX} {e a b : Expr} {pos : Pos}
theorem IxR.by {r r' : R2} (h : IxR X r) (i : ∀ x y H Q, r' x y H Q → r x y H Q) : IxR X r' := fun va sl pins s σ H x y v u Q I rx ry q => h va sl pins s σ H x y v u Q I rx ry (i x y H Q q)
theorem s_ix : IxR X (vr2 X ixD) := by
  refine IxR.by (IxR.or ix_list ix_tup) ?_
  rintro x y H Q ⟨c, st, a, b, E, w, ra, rb, h⟩
  cases b with
  | r _ => exact h.elim
  | sl _ => exact h.elim
  | p b =>
    cases b with
    | int i =>
      cases rb
      simp only [ixD] at h
      cases h1 : itemsD st a with
      | none => rw [h1] at h; exact h.elim
      | some ds =>
        simp only [h1] at h
        obtain ⟨p, xs, rfl, sq, rs⟩ := items_rep w ra h1
        cases h2 : atI ds i with
        | none => rw [h2] at h; exact h.elim
        | some d =>
          simp only [h2] at h
          obtain ⟨v, e, rv⟩ := atI_rep rs h2
          rcases sq with sq | sq
          · exact .inl ⟨p, xs, i, v, rfl, rfl, sq, e, h c H _ .refl w rv⟩
          · exact .inr ⟨p, xs, i, v, rfl, rfl, sq, e, h c H _ .refl w rv⟩
    | _ => exact h.elim
theorem e_ix {fa fb : EF} (ha : PE X a (rdE X W fa)) (hb : PE X b (rdE X W fb)) (hs : PlainIx b := by exact fun _ _ => rfl) : PE X (.Subscript a b pos) (rdE X W (fB ixD fa fb)) :=
  PE.by (pe_ix s_ix ha hb hs) fun _ _ _ h => rd_two h
end
/-! ### slices -/
def cutG {α : Type} (xs : List α) (lo hi : Option Int) : List α := (xs.drop (HT.sIx xs.length 0 lo)).take (HT.sIx xs.length xs.length hi - HT.sIx xs.length 0 lo)
theorem RepPs.drop {K : PySem.W.Frag} {F : Addr → Prop} {H : Hp} : ∀ (k : Nat) {ds : List PyData} {xs : List V}, RepPs K F H ds xs → RepPs K F H (ds.drop k) (xs.drop k)
  | 0, _, _, h => h
  | k + 1, [], _, h => by have e : _ = [] := h; subst e; exact rfl
  | k + 1, _ :: _, _, ⟨v, r, e, _, h2⟩ => by subst e; exact RepPs.drop k h2
theorem RepPs.take {K : PySem.W.Frag} {F : Addr → Prop} {H : Hp} : ∀ (k : Nat) {ds : List PyData} {xs : List V}, RepPs K F H ds xs → RepPs K F H (ds.take k) (xs.take k)
  | 0, _, _, h => by rw [List.take_zero, List.take_zero]; exact rfl
  | k + 1, [], _, h => by have e : _ = [] := h; subst e; exact rfl
  | k + 1, _ :: _, _, ⟨v, r, e, h1, h2⟩ => by subst e; exact ⟨v, _, rfl, h1, RepPs.take k h2⟩
theorem RepPs.cut {K : PySem.W.Frag} {F : Addr → Prop} {H : Hp} {ds : List PyData} {xs : List V} (h : RepPs K F H ds xs) (lo hi : Option Int) : RepPs K F H (cutG ds lo hi) (cutV xs lo hi) := by
  unfold cutG cutV
  rw [h.len]
  exact (h.drop _).take _
theorem RepDs.drop {K : PySem.W.Frag} {c : Cf} {n : Nat} {H : Hp} : ∀ (k : Nat) {ds : List D} {xs : List V}, RepDs K c n H ds xs → RepDs K c n H (ds.drop k) (xs.drop k)
  | 0, _, _, h => h
  | k + 1, [], _, h => by have e : _ = [] := h; subst e; exact rfl
  | k + 1, _ :: _, _, ⟨v, r, e, _, h2⟩ => by subst e; exact RepDs.drop k h2
theorem RepDs.take {K : PySem.W.Frag} {c : Cf} {n : Nat} {H : Hp} : ∀ (k : Nat) {ds : List D} {xs : List V}, RepDs K c n H ds xs → RepDs K c n H (ds.take k) (xs.take k)
  | 0, _, _, h => by rw [List.take_zero, List.take_zero]; exact rfl
  | k + 1, [], _, h => by have e : _ = [] := h; subst e; exact rfl
  | k + 1, _ :: _, _, ⟨v, r, e, h1, h2⟩ => by subst e; exact ⟨v, _, rfl, h1, RepDs.take k h2⟩
theorem RepDs.cut {K : PySem.W.Frag} {c : Cf} {n : Nat} {H : Hp} {ds : List D} {xs : List V} (h : RepDs K c n H ds xs) (lo hi : Option Int) : RepDs K c n H (cutG ds lo hi) (cutV xs lo hi) := by
  unfold cutG cutV
  rw [h.len]
  exact (h.drop _).take _
/-- a slice; m: a list's slice is a new object of the store -/
def slD (m : Bool) (a : D) (lo hi : Option Int) (st : Sto) : R D := match a with
  | .p (.tuple ds) => .ok (.p (.tuple (cutG ds lo hi))) st
  | a => match dat st a with
    | some (.list ds) => if m then .ok (.r st.length) (st ++ [.lst ((cutG ds lo hi).map .p)]) else .ok (.p (.list (cutG ds lo hi))) st
    | _ => .bad
abbrev FO := Ev → Sto → R (Option Int)
def fNo : FO := fun _ st => .ok none st
def fSo (f : EF) : FO := fun env st => (f env st).bind fun a s => match a with
  | .p (.int i) => .ok (some i) s
  | _ => .bad
def fSl (m : Bool) (fa : EF) (fl fh : FO) : EF := fun env st => (fa env st).bind fun a s => (fl env s).bind fun lo s1 => (fh env s1).bind fun hi s2 => slD m a lo hi s2
abbrev rpO : Rp (Option Int) (Option Int) := fun _ _ _ a b => a = b
section
variable {X : Cx} {W : WX} {e a b : Expr} {pos : Pos}
theorem PO.by {e : Option Expr} {t t' : TO} (h : PO X e t) (i : ∀ σ H Q, t' σ H Q → t σ H Q) : PO X e t' := ⟨fun pins s σ H Q I q => h.run pins s σ H Q I (i σ H Q q)⟩
theorem o_no : PO X none (rd X W rpO fNo) := PO.by po_none fun σ H Q ⟨c, env, st, er, w, hp⟩ => hp c H _ .refl w rfl
theorem o_so {f : EF} (h : PE X e (rdE X W f)) : PO X (some e) (rd X W rpO (fSo f)) := PO.by (po_some h) fun σ H Q ⟨c, env, st, er, w, hp⟩ =>
  ⟨c, env, st, er, w, (Post.bind hp).mono fun x H1 ⟨c1, st1, a, g1, w1, ra, hp1⟩ => by
    cases a with
    | r _ => exact hp1.elim
    | sl _ => exact hp1.elim
    | p a =>
      cases a with
      | int i => cases ra; exact ⟨i, rfl, hp1 c1 H1 _ .refl w1 rfl⟩
      | _ => exact hp1.elim⟩
theorem Dp_list {K : PySem.W.Frag} {mg : Str → Option Value} {c : Cf} {H : Hp} {st : Sto} (w : Wd K mg c H st) {d : D} {v : V} {ds : List PyData} (r : RepD K c st.length H d v) (h : dat st d = some (.list ds)) : ∃ a xs, v = .ref a ∧ SqL K H a xs ∧ RepPs K c.F H ds xs := by
  cases d with
  | p d =>
    cases h
    obtain ⟨a, xs, e, f, r⟩ := r
    exact ⟨a, xs, e, .of f.2, r⟩
  | sl es =>
    cases h
    obtain ⟨a, xs, e, f, r⟩ := r
    exact ⟨a, xs, e, f.seq, r⟩
  | r i =>
    obtain ⟨hi, e⟩ := r
    simp only [dat] at h
    cases hx : st[i]? with
    | none => rw [hx] at h; cases h
    | some o =>
      rw [hx] at h
      cases o with
      | lst es =>
        obtain ⟨xs, e', r⟩ := w.getL hx
        cases ha : allP es with
        | none => simp only [ha] at h; cases h
        | some ps =>
          simp only [ha] at h
          cases h
          exact ⟨_, xs, e, .of e', allP_rep ha r⟩
      | _ => cases h
theorem e_sl {m : Bool} {fa : EF} {fl fh : FO} {lo hi : Option Expr} {p2 : Pos} (ha : PE X a (rdE X W fa)) (hl : PO X lo (rd X W rpO fl)) (hu : PO X hi (rd X W rpO fh)) : PE X (.Subscript a (.Slice lo hi none p2) pos) (rdE X W (fSl m fa fl fh)) := by
  refine PE.by (pe_slice (SlR.or sl_list sl_tupA) ha hl hu) fun σ H Q ⟨c, env, st, er, w, hp⟩ => ?_
  refine ⟨c, env, st, er, w, (Post.bind hp).mono fun x H1 ⟨c1, st1, a, g1, w1, ra, hp1⟩ => ⟨c1, env, st1, er.up g1, w1, (Post.bind (rp := rpO) hp1).mono fun l H2 ⟨c2, st2, l', g2, w2, rl, hp2⟩ =>
    ⟨c2, env, st2, (er.up g1).up g2, w2, (Post.bind (rp := rpO) hp2).mono fun u H3 ⟨c3, st3, u', g3, w3, ru, hp3⟩ => ?_⟩⟩⟩
  subst rl
  subst ru
  have ra := g3.repD (g2.repD ra)
  by_cases ht : ∃ ds, a = .p (.tuple ds)
  · obtain ⟨ds, rfl⟩ := ht
    obtain ⟨p, xs, rfl, sq, rs⟩ := ra
    refine .inr ⟨p, xs, rfl, sq, fun hw => ?_, fun hw => new_tup w3 (rs.cut l' u') hp3⟩
    refine hp3 c3 H3 _ .refl w3 ⟨p, xs, rfl, sq, ?_⟩
    unfold cutG
    rw [rs.len, hw.1, hw.2, List.drop_zero, Nat.sub_zero, ← rs.len, List.take_length]
    exact rs
  · have hp3 : Post X.K X.mg (rpD X.K) c3 st3.length H3 (fun cls d H' => W cls d σ H') Q (match dat st3 a with
      | some (.list ds) => if m then .ok (.r st3.length) (st3 ++ [.lst ((cutG ds l' u').map .p)]) else .ok (.p (.list (cutG ds l' u'))) st3
      | _ => .bad) := by
      unfold slD at hp3
      split at hp3
      · exact absurd ⟨_, rfl⟩ ht
      · exact hp3
    cases hd : dat st3 a with
    | none => rw [hd] at hp3; exact hp3.elim
    | some d =>
      rw [hd] at hp3
      cases d with
      | list ds =>
        obtain ⟨p, xs, rfl, sq, rs⟩ := Dp_list w3 ra hd
        refine .inl ⟨p, xs, rfl, sq, ?_⟩
        cases m with
        | true => exact new_ref w3 (rep_all (rs.cut l' u')) hp3
        | false => exact new_lst w3 (rs.cut l' u') hp3
      | _ => exact hp3.elim
end
end MV

set_option Elab.async false
set_option linter.all false
set_option maxRecDepth 100000
set_option maxHeartbeats 400000
namespace MV
open PySem PySem.Spec PyProof.Rows L2
variable [Tbs]
/-! ### calls of built-ins -/
def CallS (X : Cx) (f : Value) (g : List D → Sto → R D) : Prop := CallR X f (vrN X g)
def fC (g : List D → Sto → R D) (fa : FA) : EF := fun env st => (fa env st).bind g
section
variable {X : Cx} {W : WX} {e a b : Expr} {es : List Expr} {pos p : Pos} {x : Str} {id T : String} {g : List D → Sto → R D} {fa : FA}
theorem CallR.by {f : Value} {r r' : List V → Hp → VK → Prop} (h : CallR X f r) (i : ∀ x H Q, r' x H Q → r x H Q) : CallR X f r' := fun pins s σ H x v Q I rx q => h pins s σ H x v Q I rx (i x H Q q)
theorem rd_call {σ : Sl} {H : Hp} {Q : VK} (h : rdE X W (fC g fa) σ H Q) : tCB (vrN X g) (rdA X W fa) σ H Q := by
  obtain ⟨c, env, st, er, w, hp⟩ := h
  exact ⟨c, env, st, er, w, (Post.bind hp).mono fun x H1 ⟨c1, st1, a, g1, w1, ra, hp1⟩ => ⟨c1, st1, a, _, w1, ra, hp1⟩⟩
theorem e_bi (hc : CallS X (.builtin id) g) (hm : X.mg x = none) (ha : PA X (e :: es) (rdA X W fa)) (hg : Gl X x := by rfl) (hv : bootBuiltins x = some (.builtin id) := by decide +kernel) (hn : x ≠ "__name__" := by decide) (hdb : (x == ("__debug__" : Str)) = false := by decide) (he : starEach (e :: es) X.env = (false, eval e X.env) :: starEach es X.env := by rfl) (hpl : (backTo pos (starEach es X.env)).any (·.1) = false := by rfl) :
    PE X (.Call (.Name x p) (e :: es) [] pos) (rdE X W (fC g fa)) := PE.by (pe_callB hc hg hm hv ha hn hdb he hpl) fun _ _ _ h => rd_call h
theorem e_ty (hc : CallS X (.type T) g) (hm : X.mg x = none) (ha : PA X (e :: es) (rdA X W fa)) (hg : Gl X x := by rfl) (hv : bootBuiltins x = some (.type T) := by decide +kernel) (hn : x ≠ "__name__" := by decide) (hdb : (x == ("__debug__" : Str)) = false := by decide) (he : starEach (e :: es) X.env = (false, eval e X.env) :: starEach es X.env := by rfl) (hpl : (backTo pos (starEach es X.env)).any (·.1) = false := by rfl) :
    PE X (.Call (.Name x p) (e :: es) [] pos) (rdE X W (fC g fa)) := PE.by (pe_callTy hc hg hm hv ha hn hdb he hpl) fun _ _ _ h => rd_call h
end
section
variable {X : Cx}
/-- one argument -/
def arg1 (g : D → Sto → R D) : List D → Sto → R D
  | [d], st => g d st
  | _, _ => .bad
theorem s_arg1 {f : Value} {g : D → Sto → R D} {r : List V → Hp → VK → Prop} (h : CallR X f r) (i : ∀ (c : Cf) (st : Sto) (d : D) (E : XK) (x : V) (H : Hp) (Q : VK), Wd X.K X.mg c H st → RepD X.K c st.length H d x → Post X.K X.mg (rpD X.K) c st.length H E Q (g d st) → r [x] H Q) : CallS X f (arg1 g) := by
  refine CallR.by h ?_
  rintro xs H Q ⟨c, st, as, E, w, ra, h⟩
  cases as with
  | nil => exact h.elim
  | cons d r =>
    cases r with
    | cons _ _ => exact h.elim
    | nil =>
      obtain ⟨v, r, rfl, h1, h2⟩ := ra
      have e : r = [] := h2
      subst e
      exact i c st d E v H Q w h1 h
/-- len -/
def lenD (d : D) (st : Sto) : R D := match d with
  | .p (.str x) => if x.length ≤ lineN then .ok (.p (.int x.length)) st else .bad
  | d => match itemsD st d with
    | some ds => .ok (.p (.int ds.length)) st
    | none => .bad
theorem s_len : CallS X (.builtin "len") (arg1 lenD) := s_arg1 call_len fun c st d E x H Q w r h => by
  unfold lenD at h
  split at h
  · cases r
    obtain ⟨hl, h⟩ := Post.when h
    exact ⟨_, _, rfl, ⟨line_le hl, rfl⟩, h c H _ .refl w rfl⟩
  · cases h1 : itemsD st d with
    | none => rw [h1] at h; exact h.elim
    | some ds =>
      rw [h1] at h
      obtain ⟨p, xs, rfl, sq, rs⟩ := items_rep w r h1
      refine ⟨_, _, rfl, ?_, h c H _ .refl w rfl⟩
      rcases sq with sq | sq
      · exact .inl ⟨xs, sq, rs.len⟩
      · exact .inr ⟨xs, sq, rs.len⟩
/-- int(x) -/
def intOf (d : D) (st : Sto) : R D := match d with
  | .p (.int i) => .ok (.p (.int i)) st
  | .p (.bool k) => .ok (.p (.int (if k then 1 else 0))) st
  | _ => .bad
theorem s_intOf : CallS X (.type "int") (arg1 intOf) := s_arg1 call_int1 fun c st d E x H Q w r h => by
  unfold intOf at h
  split at h
  · cases r; exact .inl ⟨_, rfl, h c H _ .refl w rfl⟩
  · cases r; exact .inr ⟨_, rfl, h c H _ .refl w rfl⟩
  · exact h.elim
/-- list(x); m: a new object of the store -/
def listOf (m : Bool) (d : D) (st : Sto) : R D := match itemsD st d with
  | some ds => if m then .ok (.r st.length) (st ++ [.lst ds]) else match allP ds with
    | some ps => .ok (.p (.list ps)) st
    | none => .bad
  | none => .bad
theorem s_listOf {m : Bool} : CallS X (.type "list") (arg1 (listOf m)) := s_arg1 call_list_of fun c st d E x H Q w r h => by
  unfold listOf at h
  cases h1 : itemsD st d with
  | none => rw [h1] at h; exact h.elim
  | some ds =>
    rw [h1] at h
    obtain ⟨p, xs, rfl, sq, rs⟩ := items_rep w r h1
    refine ⟨p, xs, rfl, sq, ?_⟩
    cases m with
    | true => exact new_ref w rs h
    | false =>
      simp only [Bool.false_eq_true, if_false] at h
      cases h2 : allP ds with
      | none => rw [h2] at h; exact h.elim
      | some ps => rw [h2] at h; exact new_lst w (allP_rep h2 rs) h
/-- tuple(x) -/
def tupOf (d : D) (st : Sto) : R D := match d with
  | .p (.tuple ds) => .ok (.p (.tuple ds)) st
  | d => match dat st d with
    | some (.list ds) => .ok (.p (.tuple ds)) st
    | _ => .bad
theorem s_tupOf : CallS X (.type "tuple") (arg1 tupOf) := s_arg1 call_tuple_of fun c st d E x H Q w r h => by
  unfold tupOf at h
  split at h
  · obtain ⟨p, xs, rfl, sq, rs⟩ := r
    exact ⟨p, xs, rfl, .inr ⟨sq, h c H _ .refl w ⟨p, xs, rfl, sq, rs⟩⟩⟩
  · split at h
    · rename_i h1
      obtain ⟨p, xs, rfl, sq, rs⟩ := Dp_list w r h1
      exact ⟨p, xs, rfl, .inl ⟨sq, new_tup w rs h⟩⟩
    · exact h.elim
/-- max(a, b), min(a, b) -/
def arg2 (g : D → D → Sto → R D) : List D → Sto → R D
  | [a, b], st => g a b st
  | _, _ => .bad
theorem s_arg2 {f : Value} {g : D → D → Sto → R D} {r : List V → Hp → VK → Prop} (h : CallR X f r) (i : ∀ (c : Cf) (st : Sto) (d e : D) (E : XK) (x y : V) (H : Hp) (Q : VK), Wd X.K X.mg c H st → RepD X.K c st.length H d x → RepD X.K c st.length H e y → Post X.K X.mg (rpD X.K) c st.length H E Q (g d e st) → r [x, y] H Q) : CallS X f (arg2 g) := by
  refine CallR.by h ?_
  rintro xs H Q ⟨c, st, as, E, w, ra, h⟩
  match as, ra, h with
  | [], _, h => exact h.elim
  | [_], _, h => exact h.elim
  | _ :: _ :: _ :: _, _, h => exact h.elim
  | [d, e], ⟨v, r, e1, h1, v', r', e2, h2, e3⟩, h =>
    have e : r' = [] := e3
    subst e
    subst e2
    subst e1
    exact i c st d e E v v' H Q w h1 h2 h
def max2 (a b : D) (st : Sto) : R D := match a, b with
  | .p (.int i), .p (.int j) => .ok (.p (.int (max i j))) st
  | _, _ => .bad
def min2 (a b : D) (st : Sto) : R D := match a, b with
  | .p (.int i), .p (.int j) => .ok (.p (.int (min i j))) st
  | _, _ => .bad
theorem s_max2 (hc : X.calm = true) : CallS X (.builtin "max") (arg2 max2) := s_arg2 (call_max2 hc) fun c st d e E x y H Q w r1 r2 h => by
  unfold max2 at h
  split at h
  · rename_i i j
    cases r1
    cases r2
    refine ⟨_, _, rfl, h c H _ .refl w ?_⟩
    show V.int _ = V.int _
    congr 1
    by_cases hij : j > i
    · rw [if_pos hij]; omega
    · rw [if_neg hij]; omega
  · exact h.elim
theorem s_min2 (hc : X.calm = true) : CallS X (.builtin "min") (arg2 min2) := s_arg2 (call_min2 hc) fun c st d e E x y H Q w r1 r2 h => by
  unfold min2 at h
  split at h
  · rename_i i j
    cases r1
    cases r2
    refine ⟨_, _, rfl, h c H _ .refl w ?_⟩
    show V.int _ = V.int _
    congr 1
    by_cases hij : j < i
    · rw [if_pos hij]; omega
    · rw [if_neg hij]; omega
  · exact h.elim
/-- the whole numbers of a list -/
def intsOf : List PyData → Option (List Int)
  | [] => some []
  | .int i :: r => (intsOf r).map (i :: ·)
  | _ :: _ => none
@[simp] theorem intsOf_nil : intsOf [] = some [] := rfl
@[simp] theorem intsOf_cons (i : Int) (r : List PyData) : intsOf (.int i :: r) = (intsOf r).map (i :: ·) := rfl
@[simp] theorem intsOf_map (ns : List Int) : intsOf (ns.map PyData.int) = some ns := by
  induction ns with
  | nil => rfl
  | cons n r ih => simp [ih]
theorem ints_rep {K : PySem.W.Frag} {F : Addr → Prop} {H : Hp} : ∀ {ds : List PyData} {vs : List V} {ns : List Int}, intsOf ds = some ns → RepPs K F H ds vs → vs = ns.map V.int
  | [], _, _, e, r => by cases e; exact r
  | .int i :: ds, vs, ns, e, ⟨v, r, ev, h1, h2⟩ => by
    rw [intsOf_cons] at e
    cases h : intsOf ds with
    | none => rw [h] at e; cases e
    | some qs =>
      rw [h] at e
      cases e
      subst ev
      cases h1
      rw [ints_rep h h2]
      rfl
  | .none :: _, _, _, e, _ => by cases e
  | .bool _ :: _, _, _, e, _ => by cases e
  | .str _ :: _, _, _, e, _ => by cases e
  | .list _ :: _, _, _, e, _ => by cases e
  | .tuple _ :: _, _, _, e, _ => by cases e
  | .dict _ :: _, _, _, e, _ => by cases e
theorem rep_ints {K : PySem.W.Frag} {F : Addr → Prop} {H : Hp} : ∀ {ns : List Int}, RepPs K F H (ns.map .int) (ns.map V.int)
  | [] => rfl
  | _ :: _ => ⟨_, _, rfl, rfl, rep_ints⟩
/-- the ints of a list value -/
def listInts (st : Sto) (d : D) : Option (List Int) := match dat st d with
  | some (.list ds) => intsOf ds
  | _ => none
theorem listInts_rep {K : PySem.W.Frag} {mg : Str → Option Value} {c : Cf} {H : Hp} {st : Sto} (w : Wd K mg c H st) {d : D} {v : V} {ns : List Int} (r : RepD K c st.length H d v) (h : listInts st d = some ns) : ∃ a, v = .ref a ∧ SqL K H a (ns.map V.int) := by
  unfold listInts at h
  split at h
  · rename_i h1
    obtain ⟨a, xs, e, sq, rs⟩ := Dp_list w r h1
    rw [ints_rep h rs] at sq
    exact ⟨a, e, sq⟩
  · cases h
def minL (ns : List Int) : Int := match ns with
  | [] => 0
  | n :: r => r.foldl min n
def maxL (ns : List Int) : Int := match ns with
  | [] => 0
  | n :: r => r.foldl max n
theorem foldl_min : ∀ (r : List Int) (n : Int), (r.foldl min n = n ∨ r.foldl min n ∈ r) ∧ r.foldl min n ≤ n ∧ ∀ y ∈ r, r.foldl min n ≤ y
  | [], n => ⟨.inl rfl, Int.le_refl _, fun _ h => by cases h⟩
  | x :: r, n => by
    obtain ⟨h1, h2, h3⟩ := foldl_min r (min n x)
    rw [List.foldl_cons]
    refine ⟨?_, by omega, fun y hy => ?_⟩
    · rcases h1 with h1 | h1
      · by_cases hnx : n ≤ x
        · left; omega
        · right; rw [h1]; rw [show min n x = x by omega]; exact List.mem_cons_self
      · exact .inr (List.mem_cons_of_mem _ h1)
    · rcases List.mem_cons.mp hy with e | e
      · subst e; omega
      · exact h3 y e
theorem foldl_max : ∀ (r : List Int) (n : Int), (r.foldl max n = n ∨ r.foldl max n ∈ r) ∧ n ≤ r.foldl max n ∧ ∀ y ∈ r, y ≤ r.foldl max n
  | [], n => ⟨.inl rfl, Int.le_refl _, fun _ h => by cases h⟩
  | x :: r, n => by
    obtain ⟨h1, h2, h3⟩ := foldl_max r (max n x)
    rw [List.foldl_cons]
    refine ⟨?_, by omega, fun y hy => ?_⟩
    · rcases h1 with h1 | h1
      · by_cases hnx : x ≤ n
        · left; omega
        · right; rw [h1]; rw [show max n x = x by omega]; exact List.mem_cons_self
      · exact .inr (List.mem_cons_of_mem _ h1)
    · rcases List.mem_cons.mp hy with e | e
      · subst e; omega
      · exact h3 y e
theorem minL_spec : ∀ {ns : List Int}, 0 < ns.length → minL ns ∈ ns ∧ ∀ y ∈ ns, minL ns ≤ y
  | n :: r, _ => by
    obtain ⟨h1, h2, h3⟩ := foldl_min r n
    refine ⟨?_, fun y hy => ?_⟩
    · rcases h1 with h1 | h1
      · show r.foldl min n ∈ _
        rw [h1]
        exact List.mem_cons_self
      · exact List.mem_cons_of_mem _ h1
    · rcases List.mem_cons.mp hy with e | e
      · subst e; exact h2
      · exact h3 y e
theorem maxL_spec : ∀ {ns : List Int}, 0 < ns.length → maxL ns ∈ ns ∧ ∀ y ∈ ns, y ≤ maxL ns
  | n :: r, _ => by
    obtain ⟨h1, h2, h3⟩ := foldl_max r n
    refine ⟨?_, fun y hy => ?_⟩
    · rcases h1 with h1 | h1
      · show r.foldl max n ∈ _
        rw [h1]
        exact List.mem_cons_self
      · exact List.mem_cons_of_mem _ h1
    · rcases List.mem_cons.mp hy with e | e
      · subst e; exact h2
      · exact h3 y e
/-- min(xs), max(xs), sum(xs) of whole numbers -/
def minOf (d : D) (st : Sto) : R D := match listInts st d with
  | some ns => if 0 < ns.length then .ok (.p (.int (minL ns))) st else .bad
  | none => .bad
def maxOf (d : D) (st : Sto) : R D := match listInts st d with
  | some ns => if 0 < ns.length then .ok (.p (.int (maxL ns))) st else .bad
  | none => .bad
def sumOf (d : D) (st : Sto) : R D := match listInts st d with
  | some ns => .ok (.p (.int ns.sum)) st
  | none => .bad
theorem s_minOf (hc : X.calm = true) : CallS X (.builtin "min") (arg1 minOf) := s_arg1 (cr_min hc) fun c st d E x H Q w r h => by
  unfold minOf at h
  cases h1 : listInts st d with
  | none => rw [h1] at h; exact h.elim
  | some ns =>
    rw [h1] at h
    obtain ⟨hl, h⟩ := Post.when h
    obtain ⟨a, rfl, sq⟩ := listInts_rep w r h1
    refine ⟨a, ns, rfl, sq, hl, fun m hm hle => ?_⟩
    obtain ⟨s1, s2⟩ := minL_spec hl
    have e1 := hle _ s1
    have e2 := s2 _ hm
    rw [show m = minL ns by omega]
    exact h c H _ .refl w rfl
theorem s_maxOf (hc : X.calm = true) : CallS X (.builtin "max") (arg1 maxOf) := s_arg1 (cr_max hc) fun c st d E x H Q w r h => by
  unfold maxOf at h
  cases h1 : listInts st d with
  | none => rw [h1] at h; exact h.elim
  | some ns =>
    rw [h1] at h
    obtain ⟨hl, h⟩ := Post.when h
    obtain ⟨a, rfl, sq⟩ := listInts_rep w r h1
    refine ⟨a, ns, rfl, sq, hl, fun m hm hle => ?_⟩
    obtain ⟨s1, s2⟩ := maxL_spec hl
    have e1 := hle _ s1
    have e2 := s2 _ hm
    rw [show m = maxL ns by omega]
    exact h c H _ .refl w rfl
theorem s_sumOf (hc : X.calm = true) : CallS X (.builtin "sum") (arg1 sumOf) := s_arg1 (cr_sum hc) fun c st d E x H Q w r h => by
  unfold sumOf at h
  cases h1 : listInts st d with
  | none => rw [h1] at h; exact h.elim
  | some ns =>
    rw [h1] at h
    obtain ⟨a, rfl, sq⟩ := listInts_rep w r h1
    exact ⟨a, ns, rfl, sq, h c H _ .refl w rfl⟩
end
end MV

set_option Elab.async false
set_option linter.all false
set_option maxRecDepth 100000
set_option maxHeartbeats 400000
namespace MV
open PySem PySem.Spec PyProof.Rows L2
variable [Tbs]
/-! ### isinstance of a built-in type -/
def tyOf (st : Sto) : D → String
  | .p .none => "NoneType"
  | .p (.bool _) => "bool"
  | .p (.int _) => "int"
  | .p (.str _) => "str"
  | .p (.list _) => "list"
  | .p (.tuple _) => "tuple"
  | .p (.dict _) => ""
  | .sl _ => "list"
  | .r i => match st[i]? with
    | some (.lst _) => "list"
    | some (.dct _) => "dict"
    | _ => ""
def isiD (T : String) (d : D) (st : Sto) : R D := if tyOf st d = "" then .bad else match kitB (tyOf st d) T with
  | some b => .ok (.p (.bool b)) st
  | none => .bad
theorem tyx_rep {K : PySem.W.Frag} {mg : Str → Option Value} {c : Cf} {H : Hp} {st : Sto} (w : Wd K mg c H st) {d : D} {v : V} (r : RepD K c st.length H d v) (h : tyOf st d ≠ "") : TyX K H v (.type (tyOf st d)) := by
  cases d with
  | p d =>
    cases d with
    | none => cases r; exact .base .non
    | bool b => cases r; exact .base (.bl b)
    | int b => cases r; exact .base (.int b)
    | str b => cases r; exact .base (.str b)
    | list b => obtain ⟨a, xs, rfl, f, _⟩ := r; exact .base (.lst f.2)
    | tuple b =>
      obtain ⟨a, xs, rfl, f, _⟩ := r
      rcases f with (f | ⟨o, f⟩) | ⟨o, its, n, hk, hc, _⟩
      · exact .base (.tup f)
      · exact .fTuple f
      · exact .kTuple hk hc
    | dict _ => exact absurd rfl h
  | sl b =>
    obtain ⟨a, xs, rfl, f, _⟩ := r
    rcases f with ⟨o, f⟩ | ⟨o, its, n, hk, hc, _⟩
    · exact .base (.frz f)
    · exact .kList hk hc
  | r i =>
    obtain ⟨hi, rfl⟩ := r
    cases hx : st[i]? with
    | none => simp only [tyOf, hx] at h; exact absurd rfl h
    | some o =>
      cases o with
      | lst es =>
        obtain ⟨xs, e', r⟩ := w.getL hx
        simp only [tyOf, hx]
        exact .base (.lst e')
      | dct es =>
        obtain ⟨xs, e', r⟩ := w.getD hx
        simp only [tyOf, hx]
        exact .base (.dK e')
      | ins _ _ => simp only [tyOf, hx] at h; exact absurd rfl h
section
variable {X : Cx} {W : WX} {a : Expr} {pos p p2 : Pos} {fa : EF}
theorem e_isi {T : String} {tn : Str} (hm : X.mg "isinstance" = none) (hT : X.mg tn = none) (ha : PE X a (rdE X W fa)) (hv : bootBuiltins tn = some (.type T) := by decide +kernel) (hg : Gl X "isinstance" := by rfl) (hgT : Gl X tn := by rfl) (hnT : tn ≠ "__name__" := by decide) (hdT : (tn == ("__debug__" : Str)) = false := by decide)
    (h1 : starEach [a, .Name tn p2] X.env = (false, eval a X.env) :: starEach [.Name tn p2] X.env := by rfl) (h2 : starEach [.Name tn p2] X.env = (false, eval (.Name tn p2) X.env) :: starEach [] X.env := by rfl) (hpl : (backTo pos (starEach [.Name tn p2] X.env)).any (·.1) = false := by rfl) :
    PE X (.Call (.Name "isinstance" p) [a, .Name tn p2] [] pos) (rdE X W (fU (isiD T) fa)) := by
  refine PE.by (pe_callB call_isi hg hm (by decide +kernel) (pa_cons ha (pa_cons (pe_bltn (v := .ty T) hgT hT hv rfl hnT hdT) pa_nil h2) h1) (he := h1) (hpl := hpl)) fun σ H Q ⟨c, env, st, er, w, hp⟩ => ?_
  refine ⟨c, env, st, er, w, (Post.bind hp).mono fun x H1 ⟨c1, st1, d, g1, w1, ra, hp1⟩ => ?_⟩
  by_cases ht : tyOf st1 d = ""
  · simp only [isiD] at hp1
    rw [if_pos ht] at hp1
    exact hp1.elim
  · simp only [isiD] at hp1
    rw [if_neg ht] at hp1
    cases hk : kitB (tyOf st1 d) T with
    | none => rw [hk] at hp1; exact hp1.elim
    | some b =>
      rw [hk] at hp1
      exact ⟨x, .ty T, _, _, b, rfl, .ty T, tyx_rep w1 ra ht, kit_ty hk, hp1 c1 H1 _ .refl w1 rfl⟩
end
@[simp] theorem kit1 : kitB "NoneType" "int" = some false := by decide +kernel
@[simp] theorem kit2 : kitB "bool" "int" = some true := by decide +kernel
@[simp] theorem kit3 : kitB "int" "int" = some true := by decide +kernel
@[simp] theorem kit4 : kitB "str" "int" = some false := by decide +kernel
@[simp] theorem kit5 : kitB "list" "int" = some false := by decide +kernel
@[simp] theorem kit6 : kitB "tuple" "int" = some false := by decide +kernel
@[simp] theorem kit7 : kitB "NoneType" "bool" = some false := by decide +kernel
@[simp] theorem kit8 : kitB "bool" "bool" = some true := by decide +kernel
@[simp] theorem kit9 : kitB "int" "bool" = some false := by decide +kernel
@[simp] theorem kit10 : kitB "str" "bool" = some false := by decide +kernel
@[simp] theorem kit11 : kitB "list" "bool" = some false := by decide +kernel
@[simp] theorem kit12 : kitB "tuple" "bool" = some false := by decide +kernel
@[simp] theorem kit13 : kitB "NoneType" "tuple" = some false := by decide +kernel
@[simp] theorem kit14 : kitB "bool" "tuple" = some false := by decide +kernel
@[simp] theorem kit15 : kitB "int" "tuple" = some false := by decide +kernel
@[simp] theorem kit16 : kitB "str" "tuple" = some false := by decide +kernel
@[simp] theorem kit17 : kitB "list" "tuple" = some false := by decide +kernel
@[simp] theorem kit18 : kitB "tuple" "tuple" = some true := by decide +kernel
@[simp] theorem kit19 : kitB "NoneType" "str" = some false := by decide +kernel
@[simp] theorem kit20 : kitB "bool" "str" = some false := by decide +kernel
@[simp] theorem kit21 : kitB "int" "str" = some false := by decide +kernel
@[simp] theorem kit22 : kitB "str" "str" = some true := by decide +kernel
@[simp] theorem kit23 : kitB "list" "str" = some false := by decide +kernel
@[simp] theorem kit24 : kitB "tuple" "str" = some false := by decide +kernel
/-! ### repr -/
mutual
def shortI : PyData → Bool
  | .int i => decide (i.natAbs < 10 ^ 31)
  | .list xs | .tuple xs => shortIs xs
  | _ => true
def shortIs : List PyData → Bool
  | [] => true
  | x :: xs => shortI x && shortIs xs
end
theorem short_log {i : Int} (h : i.natAbs < 10 ^ 31) : i.natAbs.log2 < 1920 := by
  by_cases h0 : i.natAbs = 0
  · rw [h0]; decide
  · exact (Nat.log2_lt h0).mpr (Nat.lt_of_lt_of_le h (by decide +kernel))
theorem short_len {i : Int} (h : i.natAbs < 10 ^ 31) : (PyData.shown (.int i)).length ≤ 32 := by
  have := int_text_length_le10 (k := 31) (by decide) h
  have e : (PyData.shown (.int i)) = Str.ofString (toString i) := by simp only [PyData.shown]
  rw [e, PySem.ofString_length]
  exact this
mutual
theorem short_ints : ∀ d : PyData, shortI d = true → d.intsShort 32 = true
  | .none, _ => rfl
  | .bool _, _ => rfl
  | .str _, _ => rfl
  | .dict _, _ => rfl
  | .int i, h => by
    have h : decide (i.natAbs < 10 ^ 31) = true := by simpa only [shortI] using h
    simp only [PyData.intsShort]
    exact decide_eq_true (short_len (of_decide_eq_true h))
  | .list xs, h => by simpa only [PyData.intsShort] using short_intss xs (by simpa only [shortI] using h)
  | .tuple xs, h => by simpa only [PyData.intsShort] using short_intss xs (by simpa only [shortI] using h)
theorem short_intss : ∀ ds : List PyData, shortIs ds = true → PyData.intsShortAll 32 ds = true
  | [], _ => rfl
  | d :: ds, h => by
    have h : (shortI d && shortIs ds) = true := by simpa only [shortIs] using h
    rw [Bool.and_eq_true] at h
    simp only [PyData.intsShortAll, short_ints d h.1, short_intss ds h.2, Bool.and_self]
end
mutual
theorem short_show : ∀ d : PyData, d.canLay0 = true → shortI d = true → d.showable = true
  | .none, _, _ => rfl
  | .bool _, _, _ => rfl
  | .str _, _, _ => rfl
  | .dict _, h, _ => by simp [PyData.canLay0] at h
  | .int i, _, h => by
    have h : decide (i.natAbs < 10 ^ 31) = true := by simpa only [shortI] using h
    simp only [PyData.showable]
    exact decide_eq_true (short_log (of_decide_eq_true h))
  | .list xs, h', h => by simpa only [PyData.showable] using short_shows xs (by simpa only [PyData.canLay0] using h') (by simpa only [shortI] using h)
  | .tuple xs, h', h => by simpa only [PyData.showable] using short_shows xs (by simpa only [PyData.canLay0] using h') (by simpa only [shortI] using h)
theorem short_shows : ∀ ds : List PyData, PyData.canLayAll0 ds = true → shortIs ds = true → PyData.showableAll ds = true
  | [], _, _ => rfl
  | d :: ds, h', h => by
    have h : (shortI d && shortIs ds) = true := by simpa only [shortIs] using h
    have h' : (d.canLay0 && PyData.canLayAll0 ds) = true := by simpa only [PyData.canLayAll0] using h'
    rw [Bool.and_eq_true] at h h'
    simp only [PyData.showableAll, short_show d h'.1 h.1, short_shows ds h'.2 h.2, Bool.and_self]
end
/-- repr is told of data that is not too large -/
def okR (d : PyData) : Bool := SeqAt.shaped d && shortI d && decide (d.bulk ≤ 400000)
theorem okR_len {d : PyData} (h : okR d = true) : d.shown.length ≤ sizeLine ∧ d.showable = true ∧ d.hasDict = false ∧ d.depth ≤ 64 := by
  unfold okR at h
  rw [Bool.and_eq_true, Bool.and_eq_true, decide_eq_true_eq] at h
  obtain ⟨⟨h1, h2⟩, h3⟩ := h
  have hc := SeqAt.canLay_of_shaped h1
  have := PyData.shown_le_bulk 32 (by decide) d (PyData.leavesShort_of_canLay0 32 d hc (short_ints d h2))
  refine ⟨?_, short_show d hc h2, PyData.hasDict_of_canLay d hc, SeqAt.depth_of_shaped h1⟩
  rw [sizeLine_eq]
  have : (32 + 2) * d.bulk + 32 ≤ 34 * 400000 + 32 := by omega
  omega
def reprD (d : D) (st : Sto) : R D := match dat st d with
  | some e => if okR e = true then .ok (.p (.str e.shown)) st else .bad
  | none => .bad
theorem s_repr {X : Cx} (hg : X.A.guards = some []) (hu : X.A.units + 66 < cLine) : CallS X (.builtin "repr") (arg1 reprD) := by
  have base : CallR X (.builtin "repr") (fun xs H Q => ∃ x d, xs = [x] ∧ Dp X.K H x d ∧ okR d = true ∧ Q (.str d.shown) H) := by
    intro pins s σ H xs us Q I r h
    obtain ⟨x, d, rfl, dp, ok, q⟩ := h
    obtain ⟨u, rfl, ru⟩ := vals1 r
    obtain ⟨h1, h2, h3, h4⟩ := okR_len ok
    obtain ⟨as, rds⟩ := Dp.reads I d x u dp ru
    cases dp with
    | non => cases ru; exact PySem.P.repr_of_none ⟨.str _, H, I.tok _, ⟨_, rfl⟩, q⟩
    | bl b => cases ru; exact PySem.P.repr_of_bool ⟨.str _, H, I.tok _, ⟨_, rfl⟩, q⟩
    | int i =>
      obtain ⟨t, rfl⟩ := ru
      exact PySem.P.repr_of_int (by simpa [PyData.showable] using h2) ⟨.str _, H, I.tok _, ⟨_, rfl⟩, q⟩
    | str z =>
      obtain ⟨t, rfl⟩ := ru
      exact PySem.P.repr_of_str ⟨.str _, H, I.tok _, ⟨_, rfl⟩, q⟩ h1
    | lst _ _ =>
      cases ru
      exact repr_of_reads' rds h2 (PyData.noDict_hsm h3) hg (by omega) (fun _ _ e => e) (fun h' u tk hk => ⟨.str _, H, I.kept hk, ⟨_, rfl⟩, q⟩) h1
    | tup _ _ =>
      cases ru
      exact repr_of_reads' rds h2 (PyData.noDict_hsm h3) hg (by omega) (fun _ _ e => e) (fun h' u tk hk => ⟨.str _, H, I.kept hk, ⟨_, rfl⟩, q⟩) h1
  refine s_arg1 base fun c st d E x H Q w r h => ?_
  unfold reprD at h
  cases hd : dat st d with
  | none => rw [hd] at h; exact h.elim
  | some e =>
    rw [hd] at h
    obtain ⟨ok, h⟩ := Post.when h
    exact ⟨x, e, rfl, dat_rep w r hd, ok, h c H _ .refl w rfl⟩
end MV

set_option Elab.async false
set_option linter.all false
set_option maxRecDepth 100000
set_option maxHeartbeats 400000
namespace MV
open PySem PySem.Spec PyProof.Rows L2
variable [Tbs]
/-! ### methods of lists -/
def tyL (st : Sto) : D → Bool
  | .p (.list _) => true
  | .sl _ => true
  | .r i => match st[i]? with
    | some (.lst _) => true
    | _ => false
  | _ => false
theorem tyL_rep {K : PySem.W.Frag} {mg : Str → Option Value} {c : Cf} {H : Hp} {st : Sto} (w : Wd K mg c H st) {d : D} {v : V} (r : RepD K c st.length H d v) (h : tyL st d = true) : tyV K "list" v H := by
  cases d with
  | p d =>
    cases d with
    | list ds => obtain ⟨a, xs, rfl, f, _⟩ := r; exact .inl ⟨rfl, xs, .of f.2⟩
    | _ => cases h
  | sl ds => obtain ⟨a, xs, rfl, f, _⟩ := r; exact .inl ⟨rfl, xs, f.seq⟩
  | r i =>
    obtain ⟨hi, rfl⟩ := r
    simp only [tyL] at h
    cases hx : st[i]? with
    | none => rw [hx] at h; cases h
    | some o =>
      rw [hx] at h
      cases o with
      | lst es =>
        obtain ⟨xs, e', r⟩ := w.getL hx
        exact .inl ⟨rfl, xs, .of e'⟩
      | _ => cases h
def vrM (X : Cx) (g : D → List D → Sto → R D) : V → List V → Hp → VK → Prop := fun x xs H Q => ∃ c st a as E, Wd X.K X.mg c H st ∧ RepD X.K c st.length H a x ∧ RepDs X.K c st.length H as xs ∧ Post X.K X.mg (rpD X.K) c st.length H E Q (g a as st)
def MtS (X : Cx) (id : String) (g : D → List D → Sto → R D) : Prop := MtR X id (vrM X g)
def fM (g : D → List D → Sto → R D) (fo : EF) (fa : FA) : EF := fun env st => (fo env st).bind fun o s => if tyL s o = true then (fa env s).bind fun as s' => g o as s' else .bad
theorem MtR.by {X : Cx} {id : String} {r r' : V → List V → Hp → VK → Prop} (h : MtR X id r) (i : ∀ x xs H Q, r' x xs H Q → r x xs H Q) : MtR X id r' := fun pins s σ H x xs v us Q I rx rs q => h pins s σ H x xs v us Q I rx rs (i x xs H Q q)
section
variable {X : Cx} {W : WX} {o e : Expr} {es : List Expr} {name : Str} {apos cpos : Pos} {id : String} {g : D → List D → Sto → R D} {fo : EF} {fa : FA}
theorem e_m (pa : PlainAttrs "list") (slot : Slot "list" name id) (hty : typeOf (.builtin id) = pure (.type "method_descriptor")) (hm : MtS X id g) (ho : PE X o (rdE X W fo)) (ha : PA X (e :: es) (rdA X W fa))
    (hbase : attributeBase o name X.env (eval o X.env) = eval o X.env := by rfl)
    (hfew : ((backTo cpos (starEach (e :: es) X.env)).all (fun x => !x.1) && (backToKw cpos (keywordEach [] X.env)).all (fun x => x.1.isSome)
      && decide ((e :: es).length + ([] : List Keyword).length + (if ([] : List Keyword).isEmpty then 0 else 1) < 30)) = true := by rfl)
    (hline : (apos.endLine == cpos.line) = true := by rfl) (hs : starEach (e :: es) X.env = (false, eval e X.env) :: starEach es X.env := by rfl) (hplain : (backTo cpos (starEach es X.env)).any (·.1) = false := by rfl) :
    PE X (.Call (.Attribute o name apos) (e :: es) [] cpos) (rdE X W (fM g fo fa)) := by
  refine PE.by (pe_bm pa slot hty hm ho ha hbase hfew hline hs hplain) fun σ H Q ⟨c, env, st, er, w, hp⟩ => ⟨c, env, st, er, w, (Post.bind hp).mono fun x H1 ⟨c1, st1, d, g1, w1, ra, hp1⟩ => ?_⟩
  obtain ⟨ht, hp1⟩ := Post.when hp1
  exact ⟨tyL_rep w1 ra ht, c1, env, st1, er.up g1, w1, (Post.bind (rp := rpL X.K) hp1).mono fun xs H2 ⟨c2, st2, as, g2, w2, ras, hp2⟩ => ⟨c2, st2, d, as, _, w2, g2.repD ra, ras, hp2⟩⟩
theorem e_m0 (pa : PlainAttrs "list") (slot : Slot "list" name id) (hty : typeOf (.builtin id) = pure (.type "method_descriptor")) (hm : MtS X id g) (ho : PE X o (rdE X W fo))
    (hbase : attributeBase o name X.env (eval o X.env) = eval o X.env := by rfl) (hline : (apos.endLine == cpos.line) = true := by rfl) :
    PE X (.Call (.Attribute o name apos) [] [] cpos) (rdE X W (fM g fo fNil)) := by
  refine PE.by (pe_bm0 pa slot hty hm ho hbase hline) fun σ H Q ⟨c, env, st, er, w, hp⟩ => ⟨c, env, st, er, w, (Post.bind hp).mono fun x H1 ⟨c1, st1, d, g1, w1, ra, hp1⟩ => ?_⟩
  obtain ⟨ht, hp1⟩ := Post.when hp1
  exact ⟨tyL_rep w1 ra ht, c1, st1, d, [], _, w1, ra, rfl, hp1⟩
end
theorem RepDs.app {K : PySem.W.Frag} {c : Cf} {n : Nat} {H : Hp} : ∀ {ds es : List D} {xs ys : List V}, RepDs K c n H ds xs → RepDs K c n H es ys → RepDs K c n H (ds ++ es) (xs ++ ys)
  | [], _, _, _, h, h' => by have e : _ = [] := h; rw [e]; exact h'
  | _ :: _, _, _, _, ⟨v, r, e, h1, h2⟩, h' => by rw [e]; exact ⟨v, _, rfl, h1, RepDs.app h2 h'⟩
theorem RepDs.erase {K : PySem.W.Frag} {c : Cf} {n : Nat} {H : Hp} : ∀ {ds : List D} {xs : List V} (k : Nat), RepDs K c n H ds xs → RepDs K c n H (ds.eraseIdx k) (xs.eraseIdx k)
  | [], _, _, h => by have e : _ = [] := h; subst e; exact rfl
  | _ :: _, _, 0, ⟨v, r, e, _, h2⟩ => by subst e; exact h2
  | _ :: _, _, k + 1, ⟨v, r, e, h1, h2⟩ => by subst e; exact ⟨v, _, rfl, h1, RepDs.erase k h2⟩
theorem RepDs.setAt {K : PySem.W.Frag} {c : Cf} {n : Nat} {H : Hp} {d : D} {x : V} (hd : RepD K c n H d x) : ∀ {ds : List D} {xs : List V} (k : Nat), RepDs K c n H ds xs → RepDs K c n H (ds.set k d) (xs.set k x)
  | [], _, _, h => by have e : _ = [] := h; subst e; exact rfl
  | _ :: _, _, 0, ⟨v, r, e, _, h2⟩ => by subst e; exact ⟨x, r, rfl, hd, h2⟩
  | _ :: _, _, k + 1, ⟨v, r, e, h1, h2⟩ => by subst e; exact ⟨v, _, rfl, h1, RepDs.setAt hd k h2⟩
section
variable {K : PySem.W.Frag} {mg : Str → Option Value} {c : Cf} {H : Hp} {st : Sto} {E : XK} {Q : VK}
/-- a list of the store is changed -/
theorem put_lst (w : Wd K mg c H st) {i : Nat} (hi : i < st.length) {ds : List D} {vs : List V} (r : RepDs K c st.length H ds vs) : Gr c st.length H c (st.set i (.lst ds)).length (upd H (c.ad i) (.lst vs)) ∧ Wd K mg c (upd H (c.ad i) (.lst vs)) (st.set i (.lst ds)) := by
  rw [List.length_set]
  exact ⟨w.growW hi _, w.write hi ⟨vs, upd_same, (w.growW hi (.lst vs)).repDs r⟩⟩
end
/-- the list of the store that a value is -/
def lstAt (st : Sto) : D → Option (Nat × List D)
  | .r i => match st[i]? with
    | some (.lst ds) => some (i, ds)
    | _ => none
  | _ => none
theorem lstAt_rep {K : PySem.W.Frag} {mg : Str → Option Value} {c : Cf} {H : Hp} {st : Sto} (w : Wd K mg c H st) {d : D} {v : V} {i : Nat} {ds : List D} (r : RepD K c st.length H d v) (h : lstAt st d = some (i, ds)) :
    i < st.length ∧ v = .ref (c.ad i) ∧ ∃ xs, H (c.ad i) = some (.lst xs) ∧ RepDs K c st.length H ds xs := by
  cases d with
  | p _ => cases h
  | sl _ => cases h
  | r j =>
    obtain ⟨hi, rfl⟩ := r
    simp only [lstAt] at h
    cases hx : st[j]? with
    | none => rw [hx] at h; cases h
    | some o =>
      rw [hx] at h
      cases o with
      | lst es => cases h; exact ⟨hi, rfl, w.getL hx⟩
      | _ => cases h
def appD (o : D) (as : List D) (st : Sto) : R D := match lstAt st o, as with
  | some (i, ds), [d] => if ds.length + 1 ≤ lineN then .ok (.p .none) (st.set i (.lst (ds ++ [d]))) else .bad
  | _, _ => .bad
def popAt (o : D) (as : List D) (st : Sto) : R D := match lstAt st o, as with
  | some (i, ds), [.p (.int k)] => match ixN ds.length k with
    | some j => match ds[j]? with
      | some d => if -lineN ≤ k ∧ k ≤ lineN then .ok d (st.set i (.lst (ds.eraseIdx j))) else .bad
      | none => .bad
    | none => .bad
  | _, _ => .bad
section
variable {X : Cx}
theorem ds1 {K : PySem.W.Frag} {c : Cf} {n : Nat} {H : Hp} {d : D} {xs : List V} (r : RepDs K c n H [d] xs) : ∃ v, xs = [v] ∧ RepD K c n H d v := by
  obtain ⟨v, r', rfl, h1, h2⟩ := r
  have e : r' = [] := h2
  subst e
  exact ⟨v, rfl, h1⟩
theorem s_app : MtS X "list.append" appD := by
  refine MtR.by mt_append ?_
  rintro x xs H Q ⟨c, st, a, as, E, w, ra, ras, h⟩
  unfold appD at h
  split at h
  · rename_i i ds d h1
    obtain ⟨hl, h⟩ := Post.when h
    obtain ⟨hi, rfl, ys, hH, rs⟩ := lstAt_rep w ra h1
    obtain ⟨v, rfl, rv⟩ := ds1 ras
    have r2 : RepDs X.K c st.length H (ds ++ [d]) (ys ++ [v]) := rs.app ⟨v, [], rfl, rv, rfl⟩
    obtain ⟨g2, w2⟩ := put_lst w hi r2
    refine ⟨_, ys, v, rfl, rfl, hH, ?_, h c _ _ g2 w2 rfl⟩
    have := line_le hl
    rw [← rs.len]
    omega
  · exact h.elim
theorem line63 : lineN ≤ 2 ^ 62 := by decide
theorem s_popAt : MtS X "list.pop" popAt := by
  refine MtR.by mt_popAt ?_
  rintro x xs H Q ⟨c, st, a, as, E, w, ra, ras, h⟩
  unfold popAt at h
  split at h
  · rename_i i ds k h1
    cases hj : ixN ds.length k with
    | none => rw [hj] at h; exact h.elim
    | some j =>
      simp only [hj] at h
      cases hd : ds[j]? with
      | none => rw [hd] at h; exact h.elim
      | some d =>
        simp only [hd] at h
        obtain ⟨hb, h⟩ := Post.when h
        obtain ⟨hi, rfl, ys, hH, rs⟩ := lstAt_rep w ra h1
        obtain ⟨v, rfl, rv⟩ := ds1 ras
        cases rv
        obtain ⟨y, hy, ry⟩ := rs.get hd
        obtain ⟨g2, w2⟩ := put_lst w hi (rs.erase j)
        refine ⟨_, ys, k, j, y, rfl, rfl, hH, ?_, ?_, ?_, hy, h c _ _ g2 w2 (g2.repD ry)⟩
        · have : (lineN : Int) = 1000000 := rfl
          omega
        · have : (lineN : Int) = 1000000 := rfl
          omega
        · rw [← rs.len]
          exact (ixN_seq hj).1
  · exact h.elim
end
/-! ### defs -/
/-- what a def promises: its mirror -/
def spM (K : PySem.W.Frag) (mg : Str → Option Value) (m : List D → Sto → R D) : Sp := fun vs H Q E =>
  ∃ c st ds, Wd K mg c H st ∧ RepDs K c st.length H ds vs ∧ Post K mg (rpD K) c st.length H E Q (m ds st)
structure FnG (P : Program) (w : World) (K : PySem.W.Frag) (mg : Str → Option Value) (base : Heap) (k : Nat) (b : Bool) (f : Addr) (fd : FuncData) (np : Nat) (ps : List Str) (m : List D → Sto → R D) : Prop where
  len : ps.length = np
  run : ∀ (A : Around) (outer : List Env) (s : Shared) (H : Hp) (args : Args) (us : List Value) (vs : List V) (Q : VK) (E : XK), Room k A → (b = true → A.guards = some []) → Env0 P w K mg base A outer s H → BindsTo s fd args (ps.zip us) → Vals vs us → vs.length = np → spM K mg m vs H Q E →
    codeAny (model P w) A (.call (.ref f) args) (CR (L2.CX P w) outer P w H s Q E) s
/-- the def that the module knows by the name x: np parameters, at most k calls deep, its mirror m -/
def Has (P : Program) (w : World) (K : PySem.W.Frag) (mg : Str → Option Value) (base : Heap) (x : Str) (np k : Nat) (b : Bool) (m : List D → Sto → R D) : Prop :=
  ∃ f fd ps, mg x = some (.ref f) ∧ PySem.W.keepIn K (.ref f) = true ∧ Binds K fd ps [] ∧ FnG P w K mg base k b f fd np ps m
/-- what every rule asks of a body -/
structure GX (X : Cx) (k : Nat) (b : Bool) : Prop where
  hr : Room k X.A
  gd : b = true → X.A.guards = some []
  calm : X.calm = true
  nd : X.N.Nodup
  po : PassesOwn (model X.prog X.w) X.A X.env X.xe
abbrev HasX (X : Cx) (x : Str) (np k : Nat) (b : Bool) (m : List D → Sto → R D) : Prop := Has X.prog X.w X.K X.mg X.base x np k b m
def fF (m : List D → Sto → R D) (fa : FA) : EF := fun env st => (fa env st).bind m
section
variable {X : Cx} {W : WX} {x : Str} {np k j : Nat} {b b' : Bool} {m : List D → Sto → R D} {e : Expr} {es : List Expr} {p pos : Pos} {fa : FA}
theorem run_G {pins : List (Addr × Obj)} {σ : Sl} {H : Hp} {s : Shared} {Q : VK} {us : List Value} {vs : List V} {E : XK} {f : Addr} {fd : FuncData} {ps : List Str} (F : FnG X.prog X.w X.K X.mg X.base k b f fd np ps m) (g : GX X j b') (hkj : k ≤ j) (hbb : b = true → b' = true) (hb : Binds X.K fd ps [])
    (hx : PassesAt (L2.CX X.prog X.w) X σ E) (I : Inv X pins σ H s) (r : Vals vs us) (hl : vs.length = np) (h : spM X.K X.mg m vs H Q E) : wpAny (model X.prog X.w) X.A (call (.ref f) us) (EP X pins σ Q) X.xe s := by
  have e1 : (us ++ []).length = ps.length := by rw [List.append_nil, ← r.length, hl, F.len]
  have b0 := hb s us I.kIn e1
  rw [List.append_nil] at b0
  refine wpAny_call (codeAny_mono (F.run X.A X.stack s H ⟨us, []⟩ us vs Q E (g.hr.mono hkj) (fun z => g.gd (hbb z)) I.env0 b0 r hl h) fun r s' hq => ?_)
  match r, hq with
  | .error e, hq => exact hx pins H s e s' I hq
  | .ok (.ret u), hq => exact I.after hq
theorem RepDs.llen {K : PySem.W.Frag} {c : Cf} {n : Nat} {H : Hp} {ds : List D} {vs : List V} (h : RepDs K c n H ds vs) {l : Nat} (e : ds.length = l) : vs.length = l := by rw [← h.len]; exact e
/-- f(e, ..) -/
def fFn (np : Nat) (m : List D → Sto → R D) (fa : FA) : EF := fun env st => (fa env st).bind fun as s => if as.length = np then m as s else .bad
theorem e_f (F : HasX X x np k b m) (g : GX X j b') (hkj : k ≤ j) (tk : Takes X W) (ha : PA X (e :: es) (rdA X W fa)) (hbb : b = true → b' = true := by decide) (hg : Gl X x := by rfl) (hdb : (x == ("__debug__" : Str)) = false := by decide)
    (he : starEach (e :: es) X.env = (false, eval e X.env) :: starEach es X.env := by rfl) (hpl : (backTo pos (starEach es X.env)).any (·.1) = false := by rfl) : PE X (.Call (.Name x p) (e :: es) [] pos) (rdE X W (fFn np m fa)) := by
  obtain ⟨f, fd, ps, hm, hk, hb, F⟩ := F
  refine ⟨fun pins s σ H Q I ⟨c, env, st, er, w, hp⟩ => ?_⟩
  refine wpAny_Call_Name_kw (ld_glob I hg hm ?_ hdb)
  refine PySem.W.callWith_K (h₀ := X.base) I.ok.mod.kin hk ?_ he hpl
  refine thn (ha.run pos pins s σ H _ I ⟨c, env, st, er, w, Post.bind hp⟩) fun us s1 ⟨vs, H1, I1, r, q⟩ => ⟨I1.kIn, ?_⟩
  obtain ⟨c1, st1, as, g1, w1, ras, hp1⟩ := q
  obtain ⟨hl, hp1⟩ := Post.when hp1
  exact run_G F g hkj hbb hb (passAt tk σ) I1 r (ras.llen hl) ⟨c1, st1, as, w1, ras, hp1⟩
theorem e_f0 (F : HasX X x 0 k b m) (g : GX X j b') (hkj : k ≤ j) (tk : Takes X W) (hbb : b = true → b' = true := by decide) (hg : Gl X x := by rfl) (hdb : (x == ("__debug__" : Str)) = false := by decide) : PE X (.Call (.Name x p) [] [] pos) (rdE X W (fFn 0 m fNil)) := by
  obtain ⟨f, fd, ps, hm, hk, hb, F⟩ := F
  refine ⟨fun pins s σ H Q I ⟨c, env, st, er, w, hp⟩ => ?_⟩
  refine wpAny_Call_Name_kw (ld_glob I hg hm ?_ hdb)
  exact PySem.W.callWith_K0 I.kIn hk (run_G (us := []) (vs := []) F g hkj hbb hb (passAt tk σ) I .nil rfl ⟨c, st, [], w, rfl, hp⟩)
end
end MV

set_option Elab.async false
set_option linter.all false
set_option maxRecDepth 100000
set_option maxHeartbeats 400000
namespace MV
open PySem PySem.Spec PyProof.Rows L2
variable [Tbs]
/-! ## statements -/
inductive RS where
  | nx (env : Ev) (st : Sto)
  | brk (env : Ev) (st : Sto)
  | ct (env : Ev) (st : Sto)
  | ret (d : D) (st : Sto)
  | exc (c : Str) (d : D) (env : Ev) (st : Sto)
  | bad
abbrev SF := Ev → Sto → RS
/-- a part's result, then a statement's -/
def R.go {α : Type} (r : R α) (env : Ev) (k : α → Sto → RS) : RS := match r with
  | .ok a st => k a st
  | .exc c d st => .exc c d env st
  | .bad => .bad
def PostS (K : PySem.W.Frag) (mg : Str → Option Value) (c : Cf) (n : Nat) (H : Hp) (W : WX) (T : Ends) : RS → Prop
  | .nx env st => ∀ c' H' σ', Gr c n H c' st.length H' → Wd K mg c' H' st → EnvR K c' st.length H' σ' env → T.nx σ' H'
  | .brk env st => ∀ c' H' σ', Gr c n H c' st.length H' → Wd K mg c' H' st → EnvR K c' st.length H' σ' env → T.bk σ' H'
  | .ct env st => ∀ c' H' σ', Gr c n H c' st.length H' → Wd K mg c' H' st → EnvR K c' st.length H' σ' env → T.ct σ' H'
  | .ret d st => ∀ c' H' v, Gr c n H c' st.length H' → Wd K mg c' H' st → RepD K c' st.length H' d v → T.rt v H'
  | .exc e d env st => ∀ c' H' σ' C dx v, Gr c n H c' st.length H' → Wd K mg c' H' st → EnvR K c' st.length H' σ' env → mg e = some (.ref C) → H' dx = some (.xd [("what", v)]) → RepD K c' st.length H' d v → W (.ref C) (some dx) σ' H'
  | .bad => False
section
variable {K : PySem.W.Frag} {mg : Str → Option Value} {c c1 : Cf} {n n1 : Nat} {H H1 : Hp} {W : WX} {T T' : Ends}
theorem PostS.up (g : Gr c n H c1 n1 H1) : ∀ {r : RS}, PostS K mg c n H W T r → PostS K mg c1 n1 H1 W T r
  | .nx _ _, h => fun c' H' σ' g' w e => h c' H' σ' (g.trans g') w e
  | .brk _ _, h => fun c' H' σ' g' w e => h c' H' σ' (g.trans g') w e
  | .ct _ _, h => fun c' H' σ' g' w e => h c' H' σ' (g.trans g') w e
  | .ret _ _, h => fun c' H' v g' w e => h c' H' v (g.trans g') w e
  | .exc _ _ _ _, h => fun c' H' σ' C dx v g' w e h1 h2 h3 => h c' H' σ' C dx v (g.trans g') w e h1 h2 h3
  | .bad, h => h
theorem PostS.when {p : Prop} [Decidable p] {r : RS} (h : PostS K mg c n H W T (if p then r else .bad)) : p ∧ PostS K mg c n H W T r := by
  by_cases hp : p
  · rw [if_pos hp] at h
    exact ⟨hp, h⟩
  · rw [if_neg hp] at h
    exact h.elim
end
theorem PostS.go {K : PySem.W.Frag} {mg : Str → Option Value} {W : WX} {T : Ends} {α β : Type} {rp : Rp α β} {c : Cf} {n : Nat} {H : Hp} {σ : Sl} {env : Ev} {k : α → Sto → RS} (er : EnvR K c n H σ env) : ∀ {r : R α}, PostS K mg c n H W T (r.go env k) →
    Post K mg rp c n H (fun cls d H' => W cls d σ H') (fun x H1 => ∃ c1 st1 a, Gr c n H c1 st1.length H1 ∧ Wd K mg c1 H1 st1 ∧ rp c1 st1.length H1 a x ∧ PostS K mg c1 st1.length H1 W T (k a st1)) r
  | .ok a st1, hp => fun c' H' v g w' r => ⟨c', st1, a, g, w', r, hp.up g⟩
  | .exc e d st1, hp => fun c' H' C dx v g w' h1 h2 h3 => hp c' H' σ C dx v g w' (er.up g) h1 h2 h3
  | .bad, hp => hp.elim
def rdS (X : Cx) (W : WX) (f : SF) : TS := fun T σ H => ∃ c env st, EnvR X.K c st.length H σ env ∧ Wd X.K X.mg c H st ∧ PostS X.K X.mg c st.length H W T (f env st)
section
variable {X : Cx} {W : WX}
/-- an expression's part of a statement -/
theorem rdS.go {α β : Type} {rp : Rp α β} {f : Ev → Sto → R α} {k : α → Ev → Sto → RS} {T : Ends} {σ : Sl} {H : Hp} (h : rdS X W (fun env st => (f env st).go env fun a st' => k a env st') T σ H) :
    rd X W rp f σ H fun x H1 => ∃ c1 env st1 a, EnvR X.K c1 st1.length H1 σ env ∧ Wd X.K X.mg c1 H1 st1 ∧ rp c1 st1.length H1 a x ∧ PostS X.K X.mg c1 st1.length H1 W T (k a env st1) := by
  obtain ⟨c, env, st, er, w, hp⟩ := h
  exact ⟨c, env, st, er, w, (PostS.go er hp).mono fun x H1 ⟨c1, st1, a, g, w1, ra, q⟩ => ⟨c1, env, st1, a, er.up g, w1, ra, q⟩⟩
variable {e : Expr} {st : Stmt} {rest : List Stmt} {pos pos' : Pos} {fa : EF} {f g : SF}
/-! ### blocks -/
def cNx : SF := fun env st => .nx env st
def cSeq (f g : SF) : SF := fun env st => match f env st with
  | .nx env' st' => g env' st'
  | r => r
theorem b_nil : PSs X [] (rdS X W cNx) := PSs.by pss_nil fun T σ H ⟨c, env, st, er, w, hp⟩ => hp c H σ .refl w er
theorem b_cons (h1 : PS X st (rdS X W f)) (h2 : PSs X rest (rdS X W g)) : PSs X (st :: rest) (rdS X W (cSeq f g)) :=
  PSs.by (pss_cons h1 h2) fun T σ H ⟨c, env, st, er, w, hp⟩ => by
    refine ⟨c, env, st, er, w, ?_⟩
    unfold cSeq at hp
    cases hf : f env st with
    | nx env' st' =>
      rw [hf] at hp
      exact fun c' H' σ' gg w' e' => ⟨c', env', st', e', w', hp.up gg⟩
    | brk _ _ => rw [hf] at hp; exact hp
    | ct _ _ => rw [hf] at hp; exact hp
    | ret _ _ => rw [hf] at hp; exact hp
    | exc _ _ _ _ => rw [hf] at hp; exact hp
    | bad => rw [hf] at hp; exact hp
theorem b_one (h1 : PS X st (rdS X W f)) : PSs X [st] (rdS X W f) := pss_one h1
def cBrk : SF := fun env st => .brk env st
def cCt : SF := fun env st => .ct env st
theorem c_pass : PS X (.Pass pos) (rdS X W cNx) := PS.by ps_pass fun T σ H ⟨c, env, st, er, w, hp⟩ => hp c H σ .refl w er
theorem c_break : PS X (.Break pos) (rdS X W cBrk) := PS.by ps_break fun T σ H ⟨c, env, st, er, w, hp⟩ => hp c H σ .refl w er
theorem c_cont : PS X (.Continue pos) (rdS X W cCt) := PS.by ps_continue fun T σ H ⟨c, env, st, er, w, hp⟩ => hp c H σ .refl w er
def cBad : SF := fun _ _ => .bad
theorem c_bad : PS X st (rdS X W cBad) := PS.by ps_never fun T σ H ⟨c, env, st, er, w, hp⟩ => hp
def cRet (fa : EF) : SF := fun env st => (fa env st).go env fun d s => .ret d s
theorem c_ret (he : PE X e (rdE X W fa)) : PS X (.Return (some e) pos) (rdS X W (cRet fa)) :=
  PS.by (ps_ret he) fun T σ H h => by
    obtain ⟨c, env, st, er, w, hp⟩ := rdS.go (rp := rpD X.K) (k := fun d env s => .ret d s) h
    exact ⟨c, env, st, er, w, hp.mono fun x H1 ⟨c1, env1, st1, a, _, w1, ra, q⟩ => q c1 H1 x .refl w1 ra⟩
def cRetN : SF := fun _ st => .ret (.p .none) st
theorem c_retN : PS X (.Return none pos) (rdS X W cRetN) := PS.by ps_retN fun T σ H ⟨c, env, st, er, w, hp⟩ => hp c H _ .refl w rfl
def cExpr (fa : EF) : SF := fun env st => (fa env st).go env fun _ s => .nx env s
theorem c_expr (he : PE X e (rdE X W fa)) (hs : swapsWith e none pos.line X.env = pure false := by rfl) : PS X (.Expr e pos) (rdS X W (cExpr fa)) :=
  PS.by (ps_expr he hs) fun T σ H h => by
    obtain ⟨c, env, st, er, w, hp⟩ := rdS.go (rp := rpD X.K) (k := fun d env s => .nx env s) h
    exact ⟨c, env, st, er, w, hp.mono fun x H1 ⟨c1, env1, st1, a, e1, w1, ra, q⟩ => q c1 H1 σ .refl w1 e1⟩
def cIf (ft : FT) (f g : SF) : SF := fun env st => (ft env st).go env fun b s => if b then f env s else g env s
theorem c_if {c' : Expr} {a b : List Stmt} {ft : FT} (hc : PT X c' (rdT X W ft)) (ha : PSs X a (rdS X W f)) (hb : PSs X b (rdS X W g)) : PS X (.If c' a b pos) (rdS X W (cIf ft f g)) :=
  PS.by (ps_if hc ha hb) fun T σ H h => by
    obtain ⟨c, env, st, er, w, hp⟩ := rdS.go (rp := rpB) (k := fun b env s => if b then f env s else g env s) h
    refine ⟨c, env, st, er, w, hp.mono fun x H1 ⟨c1, env1, st1, a, e1, w1, ra, q⟩ => ?_⟩
    subst ra
    cases a with
    | true => exact ⟨c1, env1, st1, e1, w1, q⟩
    | false => exact ⟨c1, env1, st1, e1, w1, q⟩
/-! ### targets -/
abbrev TF := D → Ev → Option Ev
def rdG (X : Cx) (ws : List Nat) (t : TF) : TG := fun v σ H Q => ∃ c n env d env', EnvR X.K c n H σ env ∧ RepD X.K c n H d v ∧ t d env = some env' ∧ ∀ σ' : Sl, EnvR X.K c n H σ' env' → (σ'.length = σ.length ∧ ∀ j, j ∉ ws → σ'[j]? = σ[j]?) → Q σ' H
theorem PG.by {tg : Expr} {t t' : TG} (h : PG X tg t) (i : ∀ v σ H Q, t' v σ H Q → t v σ H Q) : PG X tg t' := ⟨fun pins s σ H v u Q I r q => h.run pins s σ H v u Q I r (i v σ H Q q)⟩
def gN (i : Nat) : TF := fun d env => some (env.set i (some d))
theorem g_n {i : Nat} {x : Str} (hN : X.N.Nodup) (hi : X.N[i]? = some x := by rfl) (hx : Loc X.env.scope x := by first | exact .inl rfl | exact .inr rfl) (hf : X.fn x = true ∨ X.env.scope.names.lookup x = some .local := by first | exact .inl rfl | exact .inr rfl) : PG X (.Name x pos) (rdG X [i] (gN i)) :=
  PG.by (pg_name hN hi hx hf) fun v σ H Q ⟨c, n, env, d, env', er, rd, ht, q⟩ => by
    cases ht
    exact q _ (er.set i rd) ⟨List.length_set, fun j hj => List.getElem?_set_ne (fun e => hj (by rw [e]; exact List.mem_singleton.mpr rfl))⟩
/-- a, b, .. = a tuple -/
def setAll : List Nat → List PyData → Ev → Option Ev
  | [], [], env => some env
  | i :: is, d :: ds, env => setAll is ds (env.set i (some (.p d)))
  | _, _, _ => none
def gT (is : List Nat) : TF := fun d env => match d with
  | .p (.tuple ds) => setAll is ds env
  | _ => none
/-- the names of a target tuple -/
inductive Nms (X : Cx) : List Expr → List Nat → Prop
  | nil : Nms X [] []
  | cons {i : Nat} {x : Str} {p : Pos} {es : List Expr} {is : List Nat} (hi : X.N[i]? = some x) (hx : Loc X.env.scope x) (hf : X.fn x = true ∨ X.env.scope.names.lookup x = some .local) (h : Nms X es is) : Nms X (.Name x p :: es) (i :: is)
theorem nms_nil : Nms X [] [] := .nil
theorem nms_cons {i : Nat} {x : Str} {p : Pos} {es : List Expr} {is : List Nat} (h : Nms X es is) (hi : X.N[i]? = some x := by rfl) (hx : Loc X.env.scope x := by first | exact .inl rfl | exact .inr rfl) (hf : X.fn x = true ∨ X.env.scope.names.lookup x = some .local := by first | exact .inl rfl | exact .inr rfl) :
    Nms X (.Name x p :: es) (i :: is) := .cons hi hx hf h
def gSs : List Nat → TGs
  | [] => gNil
  | i :: is => gCons (gName i) (gSs is)
theorem Nms.pgs (hN : X.N.Nodup) : ∀ {es : List Expr} {is : List Nat}, Nms X es is → PGs X es (gSs is)
  | _, _, .nil => pgs_nil
  | _, _, .cons hi hx hf h => pgs_cons (pg_name hN hi hx hf) (h.pgs hN) rfl
theorem Nms.ln : ∀ {es : List Expr} {is : List Nat}, Nms X es is → (assignEach es X.env).length = is.length
  | _, _, .nil => rfl
  | _, _, .cons (es := es) hi hx hf h => by
    show (assignEach es X.env).length + 1 = _
    rw [h.ln]
    rfl
theorem Nms.nost : ∀ {es : List Expr} {is : List Nat}, Nms X es is → (assignEach es X.env).findIdx? (·.1) = none
  | _, _, .nil => rfl
  | _, _, .cons (x := x) (p := p) (es := es) hi hx hf h => by
    show List.findIdx? _ ((false, assign (.Name x p) X.env) :: assignEach es X.env) = none
    rw [List.findIdx?_cons, h.nost]
    rfl
theorem gSs_all : ∀ {is : List Nat} {ds : List PyData} {xs : List V} {c : Cf} {n : Nat} {σ : Sl} {H : Hp} {env env' : Ev} {Q : Sl → Hp → Prop}, EnvR X.K c n H σ env → RepPs X.K c.F H ds xs → setAll is ds env = some env' → (∀ σ' : Sl, EnvR X.K c n H σ' env' → (σ'.length = σ.length ∧ ∀ j, j ∉ is → σ'[j]? = σ[j]?) → Q σ' H) → gSs is xs σ H Q
  | [], [], xs, c, n, σ, H, env, env', Q, er, r, h, q => by cases h; exact ⟨r, q σ er ⟨rfl, fun _ _ => rfl⟩⟩
  | [], _ :: _, _, _, _, _, _, _, _, _, _, _, h, _ => by cases h
  | _ :: _, [], _, _, _, _, _, _, _, _, _, _, h, _ => by cases h
  | i :: is, d :: ds, xs, c, n, σ, H, env, env', Q, er, ⟨v, r, e, h1, h2⟩, h, q =>
    ⟨v, r, e, gSs_all (er.set i (d := .p d) h1) h2 h fun σ' e' ⟨l1, l2⟩ => q σ' e' ⟨by rw [l1, List.length_set], fun j hj => by rw [l2 j (fun z => hj (List.mem_cons_of_mem _ z)), List.getElem?_set_ne (fun z => hj (by rw [z]; exact List.mem_cons_self))]⟩⟩
theorem setAll_len : ∀ {is : List Nat} {ds : List PyData} {env env' : Ev}, setAll is ds env = some env' → ds.length = is.length
  | [], [], _, _, _ => rfl
  | [], _ :: _, _, _, h => by cases h
  | _ :: _, [], _, _, h => by cases h
  | _ :: is, _ :: ds, _, _, h => by rw [List.length_cons, List.length_cons, setAll_len (is := is) (ds := ds) h]
theorem g_t {es : List Expr} {is : List Nat} {k : Nat} (hc : X.calm = true) (hN : X.N.Nodup) (h : Nms X es is) : PG X (.Tuple es k pos) (rdG X is (gT is)) :=
  PG.by (pg_tup (n := is.length) hc (h.pgs hN) h.ln h.nost) fun v σ H Q ⟨c, n, env, d, env', er, rd, ht, q⟩ => by
    unfold gT at ht
    split at ht
    · obtain ⟨a, xs, rfl, sq, rs⟩ := rd
      exact ⟨a, xs, rfl, sq, by rw [← rs.len, setAll_len ht], gSs_all er rs ht q⟩
    · cases ht
def cAsg (t : TF) (fa : EF) : SF := fun env st => (fa env st).go env fun d s => match t d env with
  | some env' => .nx env' s
  | none => .bad
theorem asg_ok {ws : List Nat} {t : TF} {T : Ends} {σ : Sl} {H : Hp} (h : rdS X W (cAsg t fa) T σ H) : tAsg (rdE X W fa) (rdG X ws t) T σ H := by
  obtain ⟨c, env, st, er, w, hp⟩ := rdS.go (rp := rpD X.K) (k := fun d env s => match t d env with | some env' => .nx env' s | none => .bad) h
  refine ⟨c, env, st, er, w, hp.mono fun x H1 ⟨c1, env1, st1, a, e1, w1, ra, q⟩ => ?_⟩
  cases ht : t a env1 with
  | none => rw [ht] at q; exact q.elim
  | some env' =>
    rw [ht] at q
    exact ⟨c1, st1.length, env1, a, env', e1, ra, ht, fun σ' e' _ => q c1 H1 σ' .refl w1 e'⟩
theorem c_asg {tg : Expr} {ws : List Nat} {t : TF} (he : PE X e (rdE X W fa)) (hg : PG X tg (rdG X ws t)) (hs : swapsWithSole [tg] e pos.line X.env = pure false := by rfl) (hw : swappedStores [tg] e X.env = pure none := by rfl) (h1 : (assignEach [tg] X.env).map (·.2) = [assign tg X.env] := by rfl) :
    PS X (.Assign [tg] e pos) (rdS X W (cAsg t fa)) := PS.by (ps_asg he hg hs hw h1) fun T σ H h => asg_ok h
theorem c_set {i : Nat} {x : Str} (hN : X.N.Nodup) (he : PE X e (rdE X W fa)) (hi : X.N[i]? = some x := by rfl) (hx : Loc X.env.scope x := by first | exact .inl rfl | exact .inr rfl) (hs : swapsWith e (some (.Name x pos')) pos.line X.env = pure false := by rfl)
    (hf : X.fn x = true ∨ X.env.scope.names.lookup x = some .local := by first | exact .inl rfl | exact .inr rfl) : PS X (.Assign [.Name x pos'] e pos) (rdS X W (cAsg (gN i) fa)) :=
  PS.by (ps_set hN hi hx he hs hf) fun T σ H h => by
    obtain ⟨c, env, st, er, w, hp⟩ := rdS.go (rp := rpD X.K) (k := fun d env s => match gN i d env with | some env' => .nx env' s | none => .bad) h
    exact ⟨c, env, st, er, w, hp.mono fun x H1 ⟨c1, env1, st1, a, e1, w1, ra, q⟩ => q c1 H1 _ .refl w1 (e1.set i ra)⟩
theorem len2 {α : Type} {l : List α} (h : l.length = 2) : ∃ a b, l = [a, b] := by
  match l, h with
  | [a, b], _ => exact ⟨a, b, rfl⟩
theorem len3 {α : Type} {l : List α} (h : l.length = 3) : ∃ a b c, l = [a, b, c] := by
  match l, h with
  | [a, b, c], _ => exact ⟨a, b, c, rfl⟩
theorem ds2 {K : PySem.W.Frag} {c : Cf} {n : Nat} {H : Hp} {d d' : D} {xs : List V} (r : RepDs K c n H [d, d'] xs) : ∃ v v', xs = [v, v'] ∧ RepD K c n H d v ∧ RepD K c n H d' v' := by
  obtain ⟨v, r', rfl, h1, h2⟩ := r
  obtain ⟨v', rfl, q2⟩ := ds1 h2
  exact ⟨v, v', rfl, h1, q2⟩
theorem ds3 {K : PySem.W.Frag} {c : Cf} {n : Nat} {H : Hp} {d d' d'' : D} {xs : List V} (r : RepDs K c n H [d, d', d''] xs) : ∃ v v' v'', xs = [v, v', v''] ∧ RepD K c n H d v ∧ RepD K c n H d' v' ∧ RepD K c n H d'' v'' := by
  obtain ⟨v, r', rfl, h1, h2⟩ := r
  obtain ⟨v', v'', rfl, q2, q3⟩ := ds2 h2
  exact ⟨v, v', v'', rfl, h1, q2, q3⟩
/-- a, b = e1, e2 with plain local names -/
def cPar (is : List Nat) (fa : FA) : SF := fun env st => (fa env st).go env fun ds s => if ds.length = is.length then .nx ((is.zip ds).foldl (fun e p => e.set p.1 (some p.2)) env) s else .bad
theorem c_par2 {i j : Nat} {x y : Str} {a b : Expr} {fa : FA} {px py pt : Pos} {kt k2 pt2} (hc : X.calm = true) (hN : X.N.Nodup) (ha : PA X [a, b] (rdA X W fa)) (hi : X.N[i]? = some x := by rfl) (hj : X.N[j]? = some y := by rfl) (hij : i ≠ j := by decide)
    (hx : X.env.scope.names.lookup x = some .local := by rfl) (hy : X.env.scope.names.lookup y = some .local := by rfl)
    (hw : swappedStores [.Tuple [.Name x px, .Name y py] kt pt] (.Tuple [a, b] k2 pt2) X.env = pure (some [x, y]) := by rfl) (hs : swapsWithSole [.Tuple [.Name x px, .Name y py] kt pt] (.Tuple [a, b] k2 pt2) pos.line X.env = pure false := by rfl) :
    PS X (.Assign [.Tuple [.Name x px, .Name y py] kt pt] (.Tuple [a, b] k2 pt2) pos) (rdS X W (cPar [i, j] fa)) :=
  PS.by (ps_par hc hN hi hj hij hx hy ha hw hs) fun T σ H h => by
    obtain ⟨c, env, st, er, w, hp⟩ := rdS.go (rp := rpL X.K) (k := fun ds env s => if ds.length = [i, j].length then .nx (([i, j].zip ds).foldl (fun e p => e.set p.1 (some p.2)) env) s else .bad) h
    refine ⟨c, env, st, er, w, hp.mono fun xs H1 ⟨c1, env1, st1, as, e1, w1, ra, q⟩ => ?_⟩
    obtain ⟨hl, q⟩ := PostS.when q
    obtain ⟨d, d', rfl⟩ := len2 hl
    obtain ⟨v, v', rfl, h1, h2⟩ := ds2 ra
    exact ⟨v, v', rfl, q c1 H1 _ .refl w1 ((e1.set i h1).set j h2)⟩
theorem c_par3 {i j l : Nat} {x y z : Str} {a b c' : Expr} {fa : FA} {px py pz pt : Pos} {kt k2 pt2} (hc : X.calm = true) (hN : X.N.Nodup) (ha : PA X [a, b, c'] (rdA X W fa)) (hi : X.N[i]? = some x := by rfl) (hj : X.N[j]? = some y := by rfl) (hl : X.N[l]? = some z := by rfl) (hij : i ≠ j := by decide) (hil : i ≠ l := by decide) (hjl : j ≠ l := by decide)
    (hx : X.env.scope.names.lookup x = some .local := by rfl) (hy : X.env.scope.names.lookup y = some .local := by rfl) (hz : X.env.scope.names.lookup z = some .local := by rfl)
    (hw : swappedStores [.Tuple [.Name x px, .Name y py, .Name z pz] kt pt] (.Tuple [a, b, c'] k2 pt2) X.env = pure (some [x, y, z]) := by rfl) (hs : swapsWithSole [.Tuple [.Name x px, .Name y py, .Name z pz] kt pt] (.Tuple [a, b, c'] k2 pt2) pos.line X.env = pure false := by rfl) :
    PS X (.Assign [.Tuple [.Name x px, .Name y py, .Name z pz] kt pt] (.Tuple [a, b, c'] k2 pt2) pos) (rdS X W (cPar [i, j, l] fa)) :=
  PS.by (ps_par3 hc hN hi hj hl hij hil hjl hx hy hz ha hw hs) fun T σ H h => by
    obtain ⟨c, env, st, er, w, hp⟩ := rdS.go (rp := rpL X.K) (k := fun ds env s => if ds.length = [i, j, l].length then .nx (([i, j, l].zip ds).foldl (fun e p => e.set p.1 (some p.2)) env) s else .bad) h
    refine ⟨c, env, st, er, w, hp.mono fun xs H1 ⟨c1, env1, st1, as, e1, w1, ra, q⟩ => ?_⟩
    obtain ⟨hl, q⟩ := PostS.when q
    obtain ⟨d, d', d'', rfl⟩ := len3 hl
    obtain ⟨v, v', v'', rfl, h1, h2, h3⟩ := ds3 ra
    exact ⟨v, v', v'', rfl, q c1 H1 _ .refl w1 (((e1.set i h1).set j h2).set l h3)⟩
/-- x[i] = e, a list of the store -/
def putIx (o i v : D) (st : Sto) : Option Sto := match lstAt st o, i with
  | some (k, ds), .p (.int n) => match ixN ds.length n with
    | some j => some (st.set k (.lst (ds.set j v)))
    | none => none
  | _, _ => none
def cPut (fo fi fa : EF) : SF := fun env st => (fa env st).go env fun d s => (fo env s).go env fun o s1 => (fi env s1).go env fun i s2 => match putIx o i d s2 with
  | some s3 => .nx env s3
  | none => .bad
theorem c_put {o i : Expr} {fo fi : EF} (he : PE X e (rdE X W fa)) (ho : PE X o (rdE X W fo)) (hi : PE X i (rdE X W fi))
    (ha : ∀ v, assign (.Subscript o i pos') X.env v = (do
      let ov ← holding [v] (eval o X.env)
      let iv ← holding [v, ov] (eval i X.env)
      standAt pos'
      holding [v, ov, iv] (setItem ov iv v)
      release [v, ov, iv] []) := by intro _; rfl)
    (hs : swapsWithSole [.Subscript o i pos'] e pos.line X.env = pure false := by rfl) (hw : swappedStores [.Subscript o i pos'] e X.env = pure none := by rfl) (h1 : (assignEach [.Subscript o i pos'] X.env).map (·.2) = [assign (.Subscript o i pos') X.env] := by rfl) :
    PS X (.Assign [.Subscript o i pos'] e pos) (rdS X W (cPut fo fi fa)) :=
  PS.by (ps_asg he (pg_sub ho hi set_list ha) hs hw h1) fun T σ H h => by
    obtain ⟨c, env, st, er, w, hp⟩ := h
    refine ⟨c, env, st, er, w, (PostS.go (rp := rpD X.K) er hp).mono fun x H1 ⟨c1, st1, a, g1, w1, ra, q1⟩ => ?_⟩
    refine ⟨c1, env, st1, er.up g1, w1, (PostS.go (rp := rpD X.K) (er.up g1) q1).mono fun ov H2 ⟨c2, st2, o', g2, w2, ro, q2⟩ => ?_⟩
    refine ⟨c2, env, st2, (er.up g1).up g2, w2, (PostS.go (rp := rpD X.K) ((er.up g1).up g2) q2).mono fun iv H3 ⟨c3, st3, i', g3, w3, ri, q3⟩ => ?_⟩
    have ra := g3.repD (g2.repD ra)
    have ro := g3.repD ro
    have er := ((er.up g1).up g2).up g3
    cases hp : putIx o' i' a st3 with
    | none => rw [hp] at q3; exact q3.elim
    | some s4 =>
      rw [hp] at q3
      unfold putIx at hp
      split at hp
      · rename_i k ds n hk
        obtain ⟨hi, rfl, xs, hH, rs⟩ := lstAt_rep w3 ro hk
        cases hj : ixN ds.length n with
        | none => rw [hj] at hp; cases hp
        | some j =>
          rw [hj] at hp
          cases hp
          cases ri
          obtain ⟨g4, w4⟩ := put_lst w3 hi (rs.setAt ra j)
          exact ⟨_, xs, n, j, rfl, rfl, hH, by rw [← rs.len]; exact hj, q3 c3 _ _ g4 w4 (er.up g4)⟩
      · cases hp
end
end MV

set_option Elab.async false
set_option linter.all false
set_option maxRecDepth 100000
set_option maxHeartbeats 400000
namespace MV
open PySem PySem.Spec PyProof.Rows L2
variable [Tbs]
/-! ## what is walked -/
structure ItOK (K : PySem.W.Frag) (mg : Str → Option Value) (J : It) (ds : List D) (c : Cf) (n : Nat) (H : Hp) : Prop where
  go : ∀ i c1 n1 H1, Gr c n H c1 n1 H1 → i < ds.length → J.go i H1
  yld : ∀ i d c1 st1 H1 x H', Gr c n H c1 st1.length H1 → Wd K mg c1 H1 st1 → ds[i]? = some d → J.yld i H1 x H' → ∃ c2, Gr c1 st1.length H1 c2 st1.length H' ∧ Wd K mg c2 H' st1 ∧ RepD K c2 st1.length H' d x
  stop : ∀ c1 n1 H1, Gr c n H c1 n1 H1 → J.stop ds.length H1
abbrev rpI (K : PySem.W.Frag) (mg : Str → Option Value) : Rp (List D) It := fun c n H ds J => ItOK K mg J ds c n H
abbrev FI := Ev → Sto → R (List D)
abbrev rdI (X : Cx) (W : WX) (f : FI) : TI := rd X W (rpI X.K X.mg) f
section
variable {X : Cx} {W : WX} {tg e a b : Expr} {es : List Expr} {pos p tpos : Pos} {fa : EF}
theorem PI.by {t t' : TI} (h : PI X tg e t) (i : ∀ σ H Q, t' σ H Q → t σ H Q) : PI X tg e t' := ⟨fun pins s σ H Q I q => h.run pins s σ H Q I (i σ H Q q)⟩
theorem PI.or {t t' : TI} (h : PI X tg e t) (h' : PI X tg e t') : PI X tg e (fun σ H Q => t σ H Q ∨ t' σ H Q) := ⟨fun pins s σ H Q I q => by
  rcases q with q | q
  · exact h.run pins s σ H Q I q
  · exact h'.run pins s σ H Q I q⟩
theorem it_list {K : PySem.W.Frag} {mg : Str → Option Value} {c : Cf} {n : Nat} {H : Hp} {a : Addr} {xs : List V} {ds : List PyData} (sq : ∀ c1 n1 H1, Gr c n H c1 n1 H1 → SqL K H1 a xs) (r : RepPs K c.F H ds xs) : ItOK K mg (Itl K a) (ds.map .p) c n H where
  go := fun i c1 n1 H1 g hi => by
    rw [List.length_map, r.len] at hi
    exact ⟨xs, xs[i], sq c1 n1 H1 g, List.getElem?_eq_getElem hi⟩
  yld := fun i d c1 st1 H1 x H' g w hd hy => by
    obtain ⟨rfl, f⟩ := hy
    rw [List.getElem?_map] at hd
    cases hq : ds[i]? with
    | none => rw [hq] at hd; cases hd
    | some q =>
      rw [hq] at hd
      cases hd
      obtain ⟨v, hv, rv⟩ := (g.repPs ds xs r).get hq
      have e := (f xs (sq c1 _ _ g)).symm.trans hv
      cases e
      exact ⟨c1, .refl, w, rv⟩
  stop := fun c1 n1 H1 g => ⟨xs, sq c1 n1 H1 g, by rw [List.length_map, r.len]; exact Nat.le_refl _⟩
theorem it_tup {K : PySem.W.Frag} {mg : Str → Option Value} {c : Cf} {n : Nat} {H : Hp} {a : Addr} {xs : List V} {ds : List PyData} (sq : SqT K H a xs) (r : RepPs K c.F H ds xs) : ItOK K mg (Itt K a) (ds.map .p) c n H where
  go := fun i c1 n1 H1 g hi => by
    rw [List.length_map, r.len] at hi
    exact ⟨xs, xs[i], g.sqt sq, List.getElem?_eq_getElem hi⟩
  yld := fun i d c1 st1 H1 x H' g w hd hy => by
    obtain ⟨rfl, f⟩ := hy
    rw [List.getElem?_map] at hd
    cases hq : ds[i]? with
    | none => rw [hq] at hd; cases hd
    | some q =>
      rw [hq] at hd
      cases hd
      obtain ⟨v, hv, rv⟩ := (g.repPs ds xs r).get hq
      have e := (f xs (g.sqt sq)).symm.trans hv
      cases e
      exact ⟨c1, .refl, w, rv⟩
  stop := fun c1 n1 H1 g => ⟨xs, g.sqt sq, by rw [List.length_map, r.len]; exact Nat.le_refl _⟩
/-- the items of pure data, or of a list that is only read -/
def walkD (d : D) (st : Sto) : R (List D) := match d with
  | .p (.list ds) => .ok (ds.map .p) st
  | .p (.tuple ds) => .ok (ds.map .p) st
  | .sl ds => .ok (ds.map .p) st
  | _ => .bad
def fW (fa : EF) : FI := fun env st => (fa env st).bind walkD
theorem i_seq (ha : PE X a (rdE X W fa)) : PI X tg a (rdI X W (fW fa)) := by
  refine PI.by (PI.or (pi_list ha) (pi_tup ha)) fun σ H Q ⟨c, env, st, er, w, hp⟩ => ?_
  unfold fW at hp
  cases hf : fa env st with
  | bad => rw [hf] at hp; exact hp.elim
  | exc e d st1 =>
    rw [hf] at hp
    exact .inl ⟨c, env, st, er, w, by rw [hf]; exact hp⟩
  | ok d st1 =>
    rw [hf] at hp
    cases d with
    | r _ => exact hp.elim
    | sl ds =>
      refine .inl ⟨c, env, st, er, w, ?_⟩
      rw [hf]
      intro c' H' v g w' ⟨a, xs, e, sq, r⟩
      exact ⟨a, e, ⟨xs, sq.seq⟩, hp c' H' _ g w' (it_list (fun c1 n1 H1 g1 => (g1.sll sq).seq) r)⟩
    | p d =>
      cases d with
      | list ds =>
        refine .inl ⟨c, env, st, er, w, ?_⟩
        rw [hf]
        intro c' H' v g w' ⟨a, xs, e, sq, r⟩
        exact ⟨a, e, ⟨xs, .of sq.2⟩, hp c' H' _ g w' (it_list (fun c1 n1 H1 g1 => .of (g1.fzl sq).2) r)⟩
      | tuple ds =>
        refine .inr ⟨c, env, st, er, w, ?_⟩
        rw [hf]
        intro c' H' v g w' ⟨a, xs, e, sq, r⟩
        exact ⟨a, e, ⟨xs, sq⟩, hp c' H' _ g w' (it_tup sq r)⟩
      | _ => exact hp.elim
/-- lo, lo + 1, .. -/
def rngL (lo : Int) (n : Nat) : List PyData := (List.range n).map fun i : Nat => .int (lo + i)
theorem rngL_get {lo : Int} {n i : Nat} {d : D} (h : ((rngL lo n).map D.p)[i]? = some d) : i < n ∧ d = .p (.int (lo + i)) := by
  unfold rngL at h
  rw [List.map_map, List.getElem?_map] at h
  by_cases hi : i < n
  · rw [List.getElem?_range hi] at h
    cases h
    exact ⟨hi, rfl⟩
  · rw [List.getElem?_eq_none (by rw [List.length_range]; omega)] at h
    cases h
theorem it_rng {K : PySem.W.Frag} {mg : Str → Option Value} {c : Cf} {n : Nat} {H : Hp} {lo : Int} {m : Nat} : ItOK K mg (Itr lo m) ((rngL lo m).map .p) c n H where
  go := fun i c1 n1 H1 g hi => by
    rw [List.length_map, rngL, List.length_map, List.length_range] at hi
    exact hi
  yld := fun i d c1 st1 H1 x H' g w hd hy => by
    obtain ⟨rfl, rfl⟩ := hy
    obtain ⟨_, rfl⟩ := rngL_get hd
    exact ⟨c1, .refl, w, rfl⟩
  stop := fun c1 n1 H1 g => by
    rw [List.length_map, rngL, List.length_map, List.length_range]
    exact Nat.le_refl m
def rng1 (as : List D) (st : Sto) : R (List D) := match as with
  | [.p (.int j)] => if j ≤ lineN ∧ -lineN ≤ j then .ok ((rngL 0 j.toNat).map .p) st else .bad
  | _ => .bad
def rng2 (as : List D) (st : Sto) : R (List D) := match as with
  | [.p (.int i), .p (.int j)] => if (i ≤ lineN ∧ -lineN ≤ i) ∧ j ≤ lineN ∧ -lineN ≤ j then .ok ((rngL i (j - i).toNat).map .p) st else .bad
  | _ => .bad
def fR (g : List D → Sto → R (List D)) (fa : FA) : FI := fun env st => (fa env st).bind g
theorem i_rng1 {fa : FA} (hm : X.mg "range" = none) (ha : PA X [a] (rdA X W fa)) (hg : Gl X "range" := by rfl) (hs : starEach [a] X.env = [(false, eval a X.env)] := by rfl) : PI X tg (.Call (.Name "range" p) [a] [] pos) (rdI X W (fR rng1 fa)) := by
  refine PI.by (pi_range1 hg hm ha hs) fun σ H Q ⟨c, env, st, er, w, hp⟩ => ⟨c, env, st, er, w, (Post.bind hp).mono fun xs H1 ⟨c1, st1, as, g1, w1, ra, hp1⟩ => ?_⟩
  unfold rng1 at hp1
  split at hp1
  · obtain ⟨⟨h1, h2⟩, hp1⟩ := Post.when hp1
    obtain ⟨v, rfl, rv⟩ := ds1 ra
    cases rv
    have : (lineN : Int) = 1000000 := rfl
    exact ⟨_, rfl, by omega, by omega, hp1 c1 H1 _ .refl w1 it_rng⟩
  · exact hp1.elim
theorem i_rng2 {fa : FA} (hm : X.mg "range" = none) (ha : PA X [a, b] (rdA X W fa)) (hg : Gl X "range" := by rfl) (hs : starEach [a, b] X.env = [(false, eval a X.env), (false, eval b X.env)] := by rfl) (hs2 : starEach [b] X.env = [(false, eval b X.env)] := by rfl) :
    PI X tg (.Call (.Name "range" p) [a, b] [] pos) (rdI X W (fR rng2 fa)) := by
  refine PI.by (pi_range2 hg hm ha hs hs2) fun σ H Q ⟨c, env, st, er, w, hp⟩ => ⟨c, env, st, er, w, (Post.bind hp).mono fun xs H1 ⟨c1, st1, as, g1, w1, ra, hp1⟩ => ?_⟩
  unfold rng2 at hp1
  split at hp1
  · obtain ⟨⟨⟨h1, h2⟩, h3, h4⟩, hp1⟩ := Post.when hp1
    obtain ⟨v, v', rfl, rv, rv'⟩ := ds2 ra
    cases rv
    cases rv'
    have : (lineN : Int) = 1000000 := rfl
    exact ⟨_, _, rfl, ⟨by omega, by omega, by omega, by omega⟩, hp1 c1 H1 _ .refl w1 it_rng⟩
  · exact hp1.elim
/-- enumerate(a list) -/
def enumL (ds : List PyData) : List PyData := (ds.zipIdx).map fun p => .tuple [.int (p.2 : Nat), p.1]
theorem enumL_get {ds : List PyData} {i : Nat} {d : D} (h : ((enumL ds).map D.p)[i]? = some d) : ∃ x, ds[i]? = some x ∧ d = .p (.tuple [.int (i : Nat), x]) := by
  unfold enumL at h
  rw [List.map_map, List.getElem?_map, List.getElem?_zipIdx] at h
  cases hx : ds[i]? with
  | none => rw [hx] at h; cases h
  | some x =>
    rw [hx] at h
    cases h
    exact ⟨x, rfl, by simp⟩
theorem enumL_len (ds : List PyData) : ((enumL ds).map D.p).length = ds.length := by simp [enumL]
theorem it_enum {K : PySem.W.Frag} {mg : Str → Option Value} {c : Cf} {n : Nat} {H : Hp} {a : Addr} {xs : List V} {ds : List PyData} (sq : ∀ c1 n1 H1, Gr c n H c1 n1 H1 → SqL K H1 a xs) (r : RepPs K c.F H ds xs) : ItOK K mg (Ite K a) ((enumL ds).map .p) c n H where
  go := fun i c1 n1 H1 g hi => by
    rw [enumL_len, r.len] at hi
    exact ⟨xs, xs[i], sq c1 n1 H1 g, List.getElem?_eq_getElem hi⟩
  yld := fun i d c1 st1 H1 x H' g w hd hy => by
    obtain ⟨q, hq, rfl⟩ := enumL_get hd
    obtain ⟨v, hv, rv⟩ := (g.repPs ds xs r).get hq
    obtain ⟨T, x', rfl, hT, rfl, f⟩ := hy
    have e := (f xs (sq c1 _ _ g)).symm.trans hv
    cases e
    exact ⟨c1, w.grow hT _, w.fresh hT _, T, _, rfl, .of upd_same, _, _, rfl, rfl, _, _, rfl, (w.grow hT _).repP q _ rv, rfl⟩
  stop := fun c1 n1 H1 g => ⟨xs, sq c1 n1 H1 g, by rw [enumL_len, r.len]; exact Nat.le_refl _⟩
def enum1 (as : List D) (st : Sto) : R (List D) := match as with
  | [.p (.list ds)] => .ok ((enumL ds).map .p) st
  | [.sl ds] => .ok ((enumL ds).map .p) st
  | _ => .bad
theorem i_enum {elts : List Expr} {kk : Nat} {fa : FA} (hm : X.mg "enumerate" = none) (ha : PA X [a] (rdA X W fa)) (hg : Gl X "enumerate" := by rfl) (hs : starEach [a] X.env = [(false, eval a X.env)] := by rfl) : PI X (.Tuple elts kk tpos) (.Call (.Name "enumerate" p) [a] [] pos) (rdI X W (fR enum1 fa)) := by
  refine PI.by (pi_enum hg hm ha hs) fun σ H Q ⟨c, env, st, er, w, hp⟩ => ⟨c, env, st, er, w, (Post.bind hp).mono fun xs H1 ⟨c1, st1, as, g1, w1, ra, hp1⟩ => ?_⟩
  unfold enum1 at hp1
  split at hp1
  · obtain ⟨v, rfl, a, xs, rfl, sq, r⟩ := ds1 ra
    exact ⟨a, xs, rfl, .of sq.2, hp1 c1 H1 _ .refl w1 (it_enum (fun c1 n1 H1 g1 => .of (g1.fzl sq).2) r)⟩
  · obtain ⟨v, rfl, a, xs, rfl, sq, r⟩ := ds1 ra
    exact ⟨a, xs, rfl, sq.seq, hp1 c1 H1 _ .refl w1 (it_enum (fun c1 n1 H1 g1 => (g1.sll sq).seq) r)⟩
  · exact hp1.elim
end
/-! ### loops -/
def loopS (t : TF) (f : SF) : List D → Ev → Sto → RS
  | [], env, st => .nx env st
  | d :: ds, env, st => match t d env with
    | none => .bad
    | some env1 => match f env1 st with
      | .nx e s => loopS t f ds e s
      | .ct e s => loopS t f ds e s
      | .brk e s => .nx e s
      | r => r
def cFor (fi : FI) (t : TF) (f : SF) : SF := fun env st => (fi env st).go env fun ds s => loopS t f ds env s
section
variable {X : Cx} {W : WX} {tg iter : Expr} {body : List Stmt} {pos : Pos} {fi : FI} {t : TF} {ws : List Nat} {f : SF} {j : Nat}
theorem c_for {nb : Bool} (g : GX X j nb) (hi : PI X tg iter (rdI X W fi)) (hg : PG X tg (rdG X ws t)) (hb : PSs X body (rdS X W f)) (hs : ∀ x, foldedSetIterable iter X.env x = pure x := by intro _; rfl) : PS X (.For tg iter body [] pos) (rdS X W (cFor fi t f)) := by
  refine PS.by (ps_for g.po g.calm hi hg hb hs) fun T σ H h => ?_
  obtain ⟨c, env, st, er, w, hp⟩ := h
  refine ⟨c, env, st, er, w, (PostS.go (rp := rpI X.K X.mg) er hp).mono fun J H1 ⟨c1, st1, ds, g1, w1, ok, q1⟩ => ?_⟩
  refine ⟨fun i m σ' H' => ∃ c2 env2 st2, Gr c1 st1.length H1 c2 st2.length H' ∧ EnvR X.K c2 st2.length H' σ' env2 ∧ Wd X.K X.mg c2 H' st2 ∧ m + i = ds.length ∧ PostS X.K X.mg c2 st2.length H' W T (loopS t f (ds.drop i) env2 st2),
    ⟨ds.length, c1, env, st1, .refl, er.up g1, w1, rfl, q1⟩, fun i m σ' H' hW => ?_⟩
  obtain ⟨c2, env2, st2, g2, er2, w2, hm, q2⟩ := hW
  by_cases hi : i < ds.length
  · refine .inr ⟨ok.go i c2 _ H' g2 hi, fun σ3 H3 => ∃ c3 env3 st3, Gr c1 st1.length H1 c3 st3.length H3 ∧ EnvR X.K c3 st3.length H3 σ3 env3 ∧ Wd X.K X.mg c3 H3 st3 ∧ PostS X.K X.mg c3 st3.length H3 W T (loopS t f (ds.drop (i + 1)) env3 st3),
      fun σ3 H3 hN => ?_, fun x H3 hy => ?_⟩
    · obtain ⟨c3, env3, st3, g3, er3, w3, q3⟩ := hN
      exact ⟨m - 1, by omega, c3, env3, st3, g3, er3, w3, by omega, q3⟩
    · obtain ⟨c3, g3, w3, rx⟩ := ok.yld i _ c2 st2 H' x H3 g2 w2 (List.getElem?_eq_getElem hi) hy
      rw [List.drop_eq_getElem_cons hi] at q2
      unfold loopS at q2
      cases ht : t ds[i] env2 with
      | none => rw [ht] at q2; exact q2.elim
      | some env3 =>
        simp only [ht] at q2
        refine ⟨c3, st2.length, env2, ds[i], env3, er2.up g3, rx, ht, fun σ4 er4 _ => ⟨c3, env3, st2, er4, w3, ?_⟩⟩
        have q2 := q2.up g3
        cases hf : f env3 st2 with
        | nx e s =>
          rw [hf] at q2
          exact fun c4 H4 σ5 g4 w4 e4 => ⟨c4, e, s, (g2.trans g3).trans g4, e4, w4, q2.up g4⟩
        | ct e s =>
          rw [hf] at q2
          exact fun c4 H4 σ5 g4 w4 e4 => ⟨c4, e, s, (g2.trans g3).trans g4, e4, w4, q2.up g4⟩
        | brk e s =>
          rw [hf] at q2
          exact q2
        | ret d s =>
          rw [hf] at q2
          exact q2
        | exc c d e s =>
          rw [hf] at q2
          exact q2
        | bad => rw [hf] at q2; exact q2
  · rw [List.drop_eq_nil_of_le (by omega)] at q2
    have e : i = ds.length := by omega
    subst e
    exact .inl ⟨ok.stop c2 _ H' g2, q2 c2 H' σ' .refl w2 er2⟩
end
end MV

set_option Elab.async false
set_option linter.all false
set_option maxRecDepth 100000
set_option maxHeartbeats 400000
namespace MV
open PySem PySem.Spec PyProof.Rows L2
variable [Tbs]
/-! ## leaving a block: what was made there is let go -/
def belowD (n : Nat) : D → Bool
  | .r i => decide (i < n)
  | _ => true
def belowO (n : Nat) : OB → Bool
  | .lst ds => ds.all (belowD n)
  | .dct kvs => kvs.all fun p => belowD n p.2
  | .ins _ fs => fs.all fun p => belowD n p.2
def cleanS (n : Nat) (st : Sto) : Bool := st.all (belowO n)
section
variable {K : PySem.W.Frag} {mg : Str → Option Value} {c c' : Cf} {n N : Nat} {H : Hp} {st : Sto}
/-- the same addresses, more frozen ones -/
def Cf.Sub (c c' : Cf) : Prop := (∀ a, c.F a → c'.F a) ∧ c'.ad = c.ad
theorem Cf.Sub.rfl : c.Sub c := ⟨fun _ h => h, Eq.refl _⟩
theorem Cf.Sub.gr (s : c.Sub c') : Gr c n H c' n H := ⟨fun _ _ h _ => h, fun a h => ⟨s.1 a h, Eq.refl _⟩, fun i _ => by rw [s.2], Nat.le_refl _, fun _ _ h => h⟩
theorem RepD.cut (s : c.Sub c') : ∀ {d : D} {v : V}, RepD K c N H d v → belowD n d = true → RepD K c' n H d v
  | .p d, v, h, _ => (Cf.Sub.gr (n := N) s).repP d v h
  | .r i, v, ⟨_, e⟩, h => ⟨of_decide_eq_true h, by rw [s.2]; exact e⟩
  | .sl ds, v, ⟨a, xs, e, f, r⟩, _ => ⟨a, xs, e, f, (Cf.Sub.gr (n := N) s).repPs ds xs r⟩
theorem RepDs.cut' (s : c.Sub c') : ∀ {ds : List D} {vs : List V}, RepDs K c N H ds vs → ds.all (belowD n) = true → RepDs K c' n H ds vs
  | [], _, h, _ => h
  | _ :: _, _, ⟨v, r, e, h1, h2⟩, q => by
    rw [List.all_cons, Bool.and_eq_true] at q
    exact ⟨v, r, e, RepD.cut s h1 q.1, RepDs.cut' s h2 q.2⟩
theorem RepKv.cut' {κ : Type} (s : c.Sub c') : ∀ {ds : List (κ × D)} {vs : List (κ × V)}, RepKv K c N H ds vs → (ds.all fun p => belowD n p.2) = true → RepKv K c' n H ds vs
  | [], _, h, _ => h
  | (_, _) :: _, _, ⟨v, r, e, h1, h2⟩, q => by
    rw [List.all_cons, Bool.and_eq_true] at q
    exact ⟨v, r, e, RepD.cut s h1 q.1, RepKv.cut' s h2 q.2⟩
theorem RepO.cut (s : c.Sub c') : ∀ {o : OB} {a : Addr}, RepO K mg c N H o a → belowO n o = true → RepO K mg c' n H o a
  | .lst _, _, ⟨xs, h, r⟩, q => ⟨xs, h, r.cut' s q⟩
  | .dct _, _, ⟨vs, h, r⟩, q => ⟨vs, h, r.cut' s q⟩
  | .ins _ _, _, ⟨C, dx, vs, hc, h, r⟩, q => ⟨C, dx, vs, hc, h, r.cut' s q⟩
theorem Wd.cutAt (w : Wd K mg c H st) (hn : n ≤ st.length) (hc : cleanS n (st.take n) = true) (s : c.Sub c') (hF : ∀ a, c'.F a → c.F a ∨ ∃ k xs, n ≤ k ∧ k < st.length ∧ a = c.ad k ∧ H a = some (.lst xs)) : Wd K mg c' H (st.take n) := by
  have hl : (st.take n).length = n := by rw [List.length_take]; omega
  refine ⟨fun i o e => ?_, fun i j hi hj e => ?_, fun i hi hf => ?_, fun a h => ?_, w.tabs⟩
  · rw [hl, s.2]
    have hi : i < n := by rw [← hl]; exact (List.getElem?_eq_some_iff.mp e).1
    have hm : o ∈ st.take n := List.mem_of_getElem? e
    rw [List.getElem?_take_of_lt hi] at e
    exact (w.ob i o e).cut s (List.all_eq_true.mp hc o hm)
  · rw [hl] at hi hj
    rw [s.2] at e
    exact w.inj i j (by omega) (by omega) e
  · rw [hl] at hi
    rw [s.2] at hf
    rcases hF _ hf with h | ⟨k, xs, h1, h2, h3, _⟩
    · exact w.nf i (by omega) h
    · have := w.inj i k (by omega) h2 h3
      omega
  · rcases hF a h with h | ⟨k, xs, _, _, _, h4⟩
    · exact w.fz a h
    · exact ⟨xs, h4⟩
end
/-- a result behind a block that began with n objects: a list that was made there is frozen -/
def cutR (n : Nat) : R D → R D
  | .ok d st => if n ≤ st.length ∧ cleanS n (st.take n) = true then
      match d with
      | .p x => .ok (.p x) (st.take n)
      | .sl x => .ok (.sl x) (st.take n)
      | .r k => if k < n then .ok (.r k) (st.take n) else match st[k]? with
        | some (.lst ds) => match allP ds with
          | some ps => .ok (.p (.list ps)) (st.take n)
          | none => .bad
        | _ => .bad
    else .bad
  | .exc e d st => if n ≤ st.length ∧ cleanS n (st.take n) = true then
      match d with
      | .p x => .exc e (.p x) (st.take n)
      | _ => .bad
    else .bad
  | .bad => .bad
theorem Post.cut {K : PySem.W.Frag} {mg : Str → Option Value} {c : Cf} {n : Nat} {H : Hp} {E : XK} {Q : VK} {r : R D} (h : Post K mg (rpD K) c n H E Q (cutR n r)) : Post K mg (rpD K) c n H E Q r := by
  cases r with
  | bad => exact h
  | exc e d st =>
    obtain ⟨⟨hn, hc⟩, h⟩ := Post.when (show Post K mg (rpD K) c n H E Q (if n ≤ st.length ∧ cleanS n (st.take n) = true then _ else .bad) from h)
    cases d with
    | r _ => exact h.elim
    | sl _ => exact h.elim
    | p x =>
      intro c' H' C dx v g w hm hx rv
      have hl : (st.take n).length = n := by rw [List.length_take]; omega
      have w' : Wd K mg c' H' (st.take n) := w.cutAt hn hc .rfl fun a h => .inl h
      exact h c' H' C dx v ⟨g.stay, g.fz, g.ad, by rw [hl]; exact Nat.le_refl _, g.tab⟩ w' hm hx rv
  | ok d st =>
    obtain ⟨⟨hn, hc⟩, h⟩ := Post.when (show Post K mg (rpD K) c n H E Q (if n ≤ st.length ∧ cleanS n (st.take n) = true then _ else .bad) from h)
    intro c' H' v g w rv
    have hl : (st.take n).length = n := by rw [List.length_take]; omega
    have g' : Gr c n H c' (st.take n).length H' := ⟨g.stay, g.fz, g.ad, by rw [hl]; exact Nat.le_refl _, g.tab⟩
    cases d with
    | p x => exact h c' H' v g' (w.cutAt hn hc .rfl fun a h => .inl h) rv
    | sl x => exact h c' H' v g' (w.cutAt hn hc .rfl fun a h => .inl h) rv
    | r k =>
      obtain ⟨hk, rfl⟩ := rv
      by_cases hkn : k < n
      · simp only [hkn, if_true] at h
        exact h c' H' _ g' (w.cutAt hn hc .rfl fun a h => .inl h) ⟨by rw [hl]; exact hkn, rfl⟩
      · simp only [hkn, if_false] at h
        cases hx : st[k]? with
        | none => rw [hx] at h; exact h.elim
        | some o =>
          rw [hx] at h
          cases o with
          | lst ds =>
            simp only at h
            cases ha : allP ds with
            | none => rw [ha] at h; exact h.elim
            | some ps =>
              rw [ha] at h
              obtain ⟨xs, hH, rs⟩ := w.getL hx
              have s : c'.Sub (c'.plusF (c'.ad k)) := ⟨fun a h => .inr h, rfl⟩
              have g2 := s.gr (n := n) (H := H')
              refine h (c'.plusF (c'.ad k)) H' _ ?_ (w.cutAt hn hc s fun a h => ?_) ⟨c'.ad k, xs, rfl, ⟨.inl rfl, hH⟩, (s.gr (n := n) (H := H')).repPs ps xs (allP_rep ha rs)⟩
              · rw [hl] at g' ⊢
                exact g'.trans g2
              · rcases h with h | h
                · exact .inr ⟨k, xs, by omega, hk, h, by rw [h]; exact hH⟩
                · exact .inl h
          | _ => exact h.elim
/-! ## list comprehensions -/
def R.nox {α : Type} : R α → R α
  | .exc _ _ _ => .bad
  | r => r
theorem Post.nox {K : PySem.W.Frag} {mg : Str → Option Value} {α β : Type} {rp : Rp α β} {c : Cf} {n : Nat} {H : Hp} {E E' : XK} {Q : β → Hp → Prop} : ∀ {r : R α}, Post K mg rp c n H E Q r.nox → Post K mg rp c n H E' Q r
  | .ok _ _, h => h
  | .exc _ _ _, h => h.elim
  | .bad, h => h
def wipeE (env : Ev) : List Nat → Ev
  | [] => env
  | v :: vs => (wipeE env vs).set v none
theorem EnvR.wipe {K : PySem.W.Frag} {c : Cf} {n : Nat} {H : Hp} {σ : Sl} {env : Ev} (e : EnvR K c n H σ env) : ∀ vs : List Nat, EnvR K c n H (wipe σ vs) (wipeE env vs)
  | [] => e
  | v :: vs => by
    have ih := EnvR.wipe e vs
    refine ⟨by show ((L2.wipe σ vs).set v none).length = ((wipeE env vs).set v none).length; rw [List.length_set, List.length_set]; exact ih.1, fun j d h => ?_⟩
    have h : ((wipeE env vs).set v none)[j]? = some (some d) := h
    by_cases hj : v = j
    · subst hj
      by_cases hv : v < (wipeE env vs).length
      · rw [List.getElem?_set_self hv] at h; cases h
      · rw [List.getElem?_eq_none (by rw [List.length_set]; omega)] at h; cases h
    · rw [List.getElem?_set_ne hj] at h
      obtain ⟨x, a, b⟩ := ih.2 j d h
      exact ⟨x, by show ((L2.wipe σ vs).set v none)[j]? = _; rw [List.getElem?_set_ne hj]; exact a, b⟩
theorem wipe_at {σ : Sl} {j : Nat} : ∀ {vs : List Nat}, (j ∉ vs → (wipe σ vs)[j]? = σ[j]?) ∧ (j ∈ vs → (wipe σ vs)[j]? = if j < σ.length then some none else none)
  | [] => ⟨fun _ => rfl, fun h => by cases h⟩
  | v :: vs => by
    obtain ⟨i1, i2⟩ := wipe_at (σ := σ) (j := j) (vs := vs)
    constructor
    · intro h
      show ((L2.wipe σ vs).set v none)[j]? = _
      rw [List.getElem?_set_ne (fun e => h (by rw [e]; exact List.mem_cons_self))]
      exact i1 fun z => h (List.mem_cons_of_mem _ z)
    · intro h
      show ((L2.wipe σ vs).set v none)[j]? = _
      by_cases hj : v = j
      · subst hj
        by_cases hv : v < σ.length
        · rw [if_pos hv, List.getElem?_set_self (by rw [wipe_length]; exact hv)]
        · rw [if_neg hv, List.getElem?_eq_none (by rw [List.length_set, wipe_length]; omega)]
      · rw [List.getElem?_set_ne hj]
        rcases List.mem_cons.mp h with e | e
        · exact absurd e.symm hj
        · exact i2 e
theorem wipe_eq {σ σ' : Sl} {ws vs : List Nat} (hl : σ'.length = σ.length) (h : ∀ j, j ∉ ws → σ'[j]? = σ[j]?) (hs : ∀ j ∈ ws, j ∈ vs) : wipe σ' vs = wipe σ vs := by
  refine List.ext_getElem? fun j => ?_
  by_cases hj : j ∈ vs
  · rw [(wipe_at (σ := σ')).2 hj, (wipe_at (σ := σ)).2 hj, hl]
  · rw [(wipe_at (σ := σ')).1 hj, (wipe_at (σ := σ)).1 hj]
    exact h j fun z => hj (hs j z)
theorem wipe_wipe {σ : Sl} {vs : List Nat} : wipe (wipe σ vs) vs = wipe σ vs := by
  refine List.ext_getElem? fun j => ?_
  by_cases hj : j ∈ vs
  · rw [(wipe_at (σ := wipe σ vs)).2 hj, (wipe_at (σ := σ)).2 hj, wipe_length]
  · rw [(wipe_at (σ := wipe σ vs)).1 hj]
def fYes : FT := fun _ st => .ok true st
def compL (t : TF) (ft : FT) (fe : EF) (n : Nat) : List D → Ev → Sto → R Unit
  | [], _, st => .ok () st
  | d :: ds, env, st => match t d env with
    | none => .bad
    | some e1 => (ft e1 st).nox.bind fun b s => if b then (fe e1 s).nox.bind fun y s1 => match s1[n]? with
        | some (.lst acc) => if acc.length + 1 ≤ lineN then compL t ft fe n ds env (s1.set n (.lst (acc ++ [y]))) else .bad
        | _ => .bad
      else compL t ft fe n ds env s
def cutIf (m : Bool) (n : Nat) (r : R D) : R D := if m then r else cutR n r
/-- [elt for target in .. if ..]; m: the list is an object of the store -/
def fLc (m : Bool) (vs : List Nat) (fi : FI) (t : TF) (ft : FT) (fe : EF) : EF := fun env st => (fi env st).bind fun ds s => cutIf m s.length ((compL t ft fe s.length ds (wipeE env vs) (s ++ [.lst []])).bind fun _ s' => .ok (.r s.length) s')
theorem Post.cutIf {m : Bool} {K : PySem.W.Frag} {mg : Str → Option Value} {c : Cf} {n : Nat} {H : Hp} {E : XK} {Q : VK} {r : R D} (h : Post K mg (rpD K) c n H E Q (cutIf m n r)) : Post K mg (rpD K) c n H E Q r := by
  cases m with
  | true => exact h
  | false => exact h.cut
abbrev W0 : WX := fun _ _ _ _ => False
theorem GX.blk {X : Cx} {k : Nat} {nb : Bool} (g : GX X k nb) (s : Shared) (H : Hp) (scope : Scope) (env : Env) (fp : List Addr) : GX (X.blk s H scope env fp) k nb := ⟨g.hr, g.gd, g.calm, g.nd, PassesOwn.never⟩
theorem tk0 {X : Cx} : Takes X W0 := fun _ _ ⟨_, _, _, _, _, _, _, _, _, _, _, _, _, _, _, _, z⟩ => z.elim
section
variable {X : Cx} {W : WX} {elt tg iter : Expr} {ifs : List Expr} {scope : Scope} {own : List (Str × Nat)} {pos spos py : Pos} {fi : FI} {t : TF} {ws : List Nat} {ft : FT} {fe : EF} {m : Bool} {k : Nat}
theorem PTs.by {ifs : List Expr} {t t' : TT} (h : PTs X ifs t) (i : ∀ σ H Q, t' σ H Q → t σ H Q) : PTs X ifs t' := ⟨fun pins s σ H Q I q => h.run pins s σ H Q I (i σ H Q q)⟩
theorem i_yes : PTs X [] (rdT X W fYes) := PTs.by pts_nil fun σ H Q ⟨c, env, st, er, w, hp⟩ => hp c H true .refl w rfl
theorem i_test {c : Expr} {ft : FT} (h : PT X c (rdT X W ft)) : PTs X [c] (rdT X W ft) := pts_one h
theorem lc_rd (hws : ∀ j ∈ ws, j ∈ own.map (·.2)) {σ : Sl} {H : Hp} {Q : VK} (h : rdE X W (fLc m (own.map (·.2)) fi t ft fe) σ H Q) : tLc (rdI X W fi) (rdG X ws t) (rdT X W0 ft) (rdE X W0 fe) (own.map (·.2)) σ H Q := by
  obtain ⟨c, env, st, er, w, hp⟩ := h
  refine ⟨c, env, st, er, w, (Post.bind hp).mono fun J H1 ⟨c1, st1, ds, g1, w1, ok, q1⟩ D hD => ?_⟩
  have q1 := q1.cutIf
  have n1 : (st1 ++ [OB.lst []]).length = st1.length + 1 := by simp
  have gD := w1.growR hD (.lst [])
  have wD : Wd X.K X.mg (c1.plusR st1.length D) (upd H1 D (.lst [])) (st1 ++ [.lst []]) := w1.freshR hD ⟨[], upd_same, rfl⟩
  refine ⟨fun i m H' => ∃ c2 st2, Gr (c1.plusR st1.length D) (st1.length + 1) (upd H1 D (.lst [])) c2 st2.length H' ∧ Wd X.K X.mg c2 H' st2 ∧ m + i = ds.length ∧ st1.length < st2.length ∧
      Post X.K X.mg (rpD X.K) c2 st2.length H' (fun cls d H' => W cls d σ H') Q ((compL t ft fe st1.length (ds.drop i) (wipeE env (own.map (·.2))) st2).bind fun _ s' => .ok (.r st1.length) s'),
    ⟨ds.length, c1.plusR st1.length D, st1 ++ [.lst []], by rw [n1]; exact .refl, wD, rfl, by simp, by rw [n1]; exact q1.up gD⟩, fun i mm H' hW => ?_⟩
  obtain ⟨c2, st2, g2, w2, hm, le2, q2⟩ := hW
  have g12 : Gr c1 st1.length H1 c2 st2.length H' := gD.trans g2
  have er2 : EnvR X.K c2 st2.length H' (wipe σ (own.map (·.2))) (wipeE env (own.map (·.2))) := ((er.up g1).up g12).wipe _
  have adD : c2.ad st1.length = D := (g2.ad _ (by omega)).trans Cf.plusR_at
  by_cases hi : i < ds.length
  · refine .inr ⟨ok.go i c2 _ H' g12 hi, fun H3 => ∃ c3 st3, Gr (c1.plusR st1.length D) (st1.length + 1) (upd H1 D (.lst [])) c3 st3.length H3 ∧ Wd X.K X.mg c3 H3 st3 ∧ st1.length < st3.length ∧
        Post X.K X.mg (rpD X.K) c3 st3.length H3 (fun cls d H' => W cls d σ H') Q ((compL t ft fe st1.length (ds.drop (i + 1)) (wipeE env (own.map (·.2))) st3).bind fun _ s' => .ok (.r st1.length) s'), fun H3 hN => ?_, fun x H3 hy => ?_⟩
    · obtain ⟨c3, st3, g3, w3, h3, q3⟩ := hN
      exact ⟨mm - 1, by omega, c3, st3, g3, w3, by omega, h3, q3⟩
    · obtain ⟨c3, g3, w3, rx⟩ := ok.yld i _ c2 st2 H' x H3 g12 w2 (List.getElem?_eq_getElem hi) hy
      rw [List.drop_eq_getElem_cons hi] at q2
      unfold compL at q2
      cases ht : t ds[i] (wipeE env (own.map (·.2))) with
      | none => rw [ht] at q2; exact q2.elim
      | some e1 =>
        simp only [ht] at q2
        refine ⟨c3, st2.length, _, ds[i], e1, er2.up g3, rx, ht, fun σ4 er4 ⟨l4, s4⟩ => ⟨(wipe_eq l4 s4 hws).trans wipe_wipe, ?_⟩⟩
        have q2 := q2.up g3
        refine ⟨c3, e1, st2, er4, w3, ?_⟩
        cases hft : ft e1 st2 with
        | bad => rw [hft] at q2; exact q2.elim
        | exc _ _ _ => rw [hft] at q2; exact q2.elim
        | ok b s =>
          rw [hft] at q2
          intro c4 H4 b' g4 w4 eb
          subst eb
          have q4 := q2.up g4
          have gt4 := (g2.trans g3).trans g4
          have ls : st1.length < s.length := Nat.lt_of_lt_of_le (Nat.lt_succ_self _) gt4.le
          cases b with
          | false =>
            exact ⟨c4, s, gt4, w4, ls, q4⟩
          | true =>
            refine ⟨c4, e1, s, er4.up g4, w4, ?_⟩
            have q4 : Post X.K X.mg (rpD X.K) c4 s.length H4 (fun cls d H' => W cls d σ H') Q (((fe e1 s).nox.bind fun y s1 => match s1[st1.length]? with
                | some (.lst acc) => if acc.length + 1 ≤ lineN then compL t ft fe st1.length (ds.drop (i + 1)) (wipeE env (own.map (·.2))) (s1.set st1.length (.lst (acc ++ [y]))) else .bad
                | _ => .bad).bind fun _ s' => .ok (.r st1.length) s') := q4
            cases hfe : fe e1 s with
            | bad => rw [hfe] at q4; exact q4.elim
            | exc _ _ _ => rw [hfe] at q4; exact q4.elim
            | ok y s1 =>
              rw [hfe] at q4
              intro c5 H5 v g5 w5 rv
              have q5 := q4.up g5
              have gt5 := gt4.trans g5
              have ls1 : st1.length < s1.length := Nat.lt_of_lt_of_le (Nat.lt_succ_self _) gt5.le
              have ad5 : c5.ad st1.length = D := (gt5.ad _ (by omega)).trans Cf.plusR_at
              simp only [R.nox, R.bind] at q5
              cases hx : s1[st1.length]? with
              | none => rw [hx] at q5; exact q5.elim
              | some o =>
                rw [hx] at q5
                cases o with
                | lst acc =>
                  simp only at q5
                  by_cases hz : acc.length + 1 ≤ lineN
                  · rw [if_pos hz] at q5
                    obtain ⟨xs, hH, rs⟩ := w5.getL hx
                    obtain ⟨g6, w6⟩ := put_lst w5 ls1 (rs.app (es := [y]) (ys := [v]) ⟨v, [], rfl, rv, rfl⟩)
                    rw [ad5] at g6 w6 hH
                    refine ⟨xs, hH, ?_, c5, _, gt5.trans g6, w6, by rw [List.length_set]; exact ls1, q5.up g6⟩
                    have := line_le hz
                    rw [← rs.len]
                    omega
                  · rw [if_neg hz] at q5
                    exact q5.elim
                | _ => exact q5.elim
  · rw [List.drop_eq_nil_of_le (by omega)] at q2
    have e : i = ds.length := by omega
    subst e
    exact .inl ⟨ok.stop c2 _ H' g12, q2 c2 H' _ .refl w2 ⟨le2, by rw [adD]⟩⟩
theorem e_lc {nb : Bool} (g : GX X k nb) (hi : PI X tg iter (rdI X W fi)) (ok : BlkOk X.N X.env.scope scope own) (hws : ∀ j ∈ ws, j ∈ own.map (·.2))
    (hg : ∀ (s : Shared) (H : Hp) (C : Addr) (cl : List (Str × Addr)) (fp : List Addr), PG (X.blk s H scope (compEnvC scope cl C X.env) fp) tg (rdG X ws t)) (ht : ∀ (s : Shared) (H : Hp) (C : Addr) (cl : List (Str × Addr)) (fp : List Addr), PTs (X.blk s H scope (compEnvC scope cl C X.env) fp) ifs (rdT X W0 ft))
    (he : ∀ (s : Shared) (H : Hp) (C : Addr) (cl : List (Str × Addr)) (fp : List Addr), PE (X.blk s H scope (compEnvC scope cl C X.env) fp) elt (rdE X W0 fe)) (hs : ∀ x, foldedSetIterable iter X.env x = pure x := by intro _; rfl) :
    PE X (.ListComp elt [⟨tg, iter, ifs, 0⟩] scope pos) (rdE X W (fLc m (own.map (·.2)) fi t ft fe)) :=
  PE.by (pe_lc g.calm g.nd hi ok hg ht he hs) fun σ H Q h => lc_rd hws h
theorem c_lc {i : Nat} {y : Str} {nb : Bool} (g : GX X k nb) (hi : PI X tg iter (rdI X W fi)) (ok : BlkOk X.N X.env.scope scope own) (hws : ∀ j ∈ ws, j ∈ own.map (·.2))
    (hg : ∀ (s : Shared) (H : Hp) (C : Addr) (cl : List (Str × Addr)) (fp : List Addr), PG (X.blk s H scope (compEnvC scope cl C X.env) fp) tg (rdG X ws t)) (ht : ∀ (s : Shared) (H : Hp) (C : Addr) (cl : List (Str × Addr)) (fp : List Addr), PTs (X.blk s H scope (compEnvC scope cl C X.env) fp) ifs (rdT X W0 ft))
    (he : ∀ (s : Shared) (H : Hp) (C : Addr) (cl : List (Str × Addr)) (fp : List Addr), PE (X.blk s H scope (compEnvC scope cl C X.env) fp) elt (rdE X W0 fe)) (hy : X.N[i]? = some y := by rfl) (hyl : X.env.scope.names.lookup y = some .local := by rfl)
    (hsw : swapsWith (.ListComp elt [⟨tg, iter, ifs, 0⟩] scope pos) (some (.Name y py)) spos.line X.env = pure true := by exact sw_true rfl rfl rfl (by decide +kernel)) (hs : ∀ x, foldedSetIterable iter X.env x = pure x := by intro _; rfl) :
    PS X (.Assign [.Name y py] (.ListComp elt [⟨tg, iter, ifs, 0⟩] scope pos) spos) (rdS X W (cAsg (gN i) (fLc m (own.map (·.2)) fi t ft fe))) :=
  PS.by (ps_setLc g.calm g.nd hy hyl hsw hi ok hg ht he hs) fun T σ H h => by
    obtain ⟨c, env, st, er, w, hp⟩ := rdS.go (rp := rpD X.K) (k := fun d env s => match gN i d env with | some env' => .nx env' s | none => .bad) h
    exact lc_rd hws ⟨c, env, st, er, w, hp.mono fun x H1 ⟨c1, env1, st1, a, e1, w1, ra, q⟩ => q c1 H1 _ .refl w1 (e1.set i ra)⟩
end
end MV

set_option Elab.async false
set_option linter.all false
set_option maxRecDepth 100000
set_option maxHeartbeats 400000
namespace MV
open PySem PySem.Spec PyProof.Rows L2
variable [Tbs]
/-! ## a def by its body -/
def retR : RS → R D
  | .nx _ st => .ok (.p .none) st
  | .ret d st => .ok d st
  | .exc c d _ st => .exc c d st
  | _ => .bad
def startE (N : Nat) (ds : List D) : Ev := ds.map some ++ List.replicate (N - ds.length) none
/-- the mirror of a def: N slots, its body; keep: objects made there stay in the store -/
def fnM (keep : Bool) (N : Nat) (f : SF) (ds : List D) (st : Sto) : R D := cutIf keep st.length (retR (f (startE N ds) st))
section
variable {K : PySem.W.Frag} {mg : Str → Option Value} {c : Cf} {n : Nat} {H : Hp}
theorem start_env : ∀ {ds : List D} {vs : List V} (m : Nat), RepDs K c n H ds vs → EnvR K c n H (vs.map some ++ List.replicate m none) (ds.map some ++ List.replicate m none)
  | [], vs, m, r => by
    have e : vs = [] := r
    subst e
    refine ⟨by simp, fun i d h => ?_⟩
    simp only [List.map_nil, List.nil_append] at h
    obtain ⟨hi, e⟩ := List.getElem?_eq_some_iff.mp h
    rw [List.getElem_replicate] at e
    cases e
  | d :: ds, vs, m, ⟨v, r, e, h1, h2⟩ => by
    subst e
    obtain ⟨i1, i2⟩ := start_env m h2
    refine ⟨by simpa using i1, fun i d' h => ?_⟩
    cases i with
    | zero => cases Option.some.inj h; exact ⟨v, rfl, h1⟩
    | succ i =>
      obtain ⟨x, a, b⟩ := i2 i d' (by simpa using h)
      exact ⟨x, by simpa using a, b⟩
theorem retR_post {E : XK} {Q : VK} : ∀ {r : RS}, Post K mg (rpD K) c n H E Q (retR r) → PostS K mg c n H (fun cls d _ H' => E cls d H') { nx := fun _ H' => Q .non H', rt := Q } r
  | .nx _ st, h => fun c' H' σ' g w e => h c' H' .non g w rfl
  | .ret d st, h => fun c' H' v g w r => h c' H' v g w r
  | .exc c d _ st, h => fun c' H' σ' C dx v g w _ hm hx r => h c' H' C dx v g w hm hx r
  | .brk _ _, h => h.elim
  | .ct _ _, h => h.elim
  | .bad, h => h
end
section
variable {P : Program} {w : World} {K : PySem.W.Frag} {mg : Str → Option Value} {base : Heap}
theorem fn_G {x qual : Str} {st : Stmt} {f : Addr} {fd : FuncData} {N ps : List Str} {k np n : Nat} {nb : Bool} {body : SF} {keep : Bool} {m : List D → Sto → R D} (F : Fun K x qual st f fd) (S : FnScope N ps (defScope st)) (hnp : ps.length = np) (hn : N.length = n) (hm : m = fnM keep n body)
    (hb : ∀ (cdv : Value), fd.code = cdv → ∀ (A : Around) (outer : List Env) (s : Shared) (H : Hp) (E : XK), GX (cxOf (L2.CX P w) P w K mg base N qual (defScope st) f cdv A outer s H E) k nb → Takes (cxOf (L2.CX P w) P w K mg base N qual (defScope st) f cdv A outer s H E) (fun cls d _ H' => E cls d H') →
      PSs (cxOf (L2.CX P w) P w K mg base N qual (defScope st) f cdv A outer s H E) (defBody st) (rdS (cxOf (L2.CX P w) P w K mg base N qual (defScope st) f cdv A outer s H E) (fun cls d _ H' => E cls d H') body)) :
    FnG P w K mg base (k + 1) nb f fd np ps m := by
  subst hm
  subst hn
  obtain ⟨oc, od, kV, doc, pm, an, cdv, ct, osl, rfl, lk, hcd⟩ := F.ex
  refine ⟨hnp, fun A outer s H args us vs Q E hr hgd e0 hbi r hl hsp => ?_⟩
  have hl' : vs.length = ps.length := hl.trans hnp.symm
  have stay : ∀ b o, base.get? b = some o → s.heap.get? b = some o := fun b o e => (e0.bs b o e).1
  have KX : K.In s.heap := e0.mod.kin.keeps stay
  have lim : s.heap.NoLimit := e0.mod.nolimit.keeps stay
  refine codeAny_call_function hr.depth (KX _ _ lk) rfl S.co S.gen rfl (PySem.W.codeRec_of KX hcd) (hbi _ _ _ _ ?_)
  refine wpAny_newFunctionEnv_cells S.kind (fun ⟨nm, v⟩ hy => ?_) fun env he s1 hx => ?_
  · rcases S.par nm (List.of_mem_zip hy).1 with q | q
    · exact Or.inl q
    · exact Or.inr ⟨q, PySem.W.cellsFrom_some _ _ _ (Or.inl q)⟩
  · subst he
    refine ⟨lim.keeps hx.toInCall.keep, codeAny_func ?_⟩
    have I := inv_start (CX := L2.CX P w) (E := E) S hr.hd e0 hl' r hx
    have g : GX (cxOf (L2.CX P w) P w K mg base N qual (defScope st) f cdv A outer s H E) k nb :=
      ⟨hr.deeper _, hgd, rfl, S.nd, passes_of (K := fun e s'' => L2.CX P w outer H s E e s'') (E₁ := fun e' s'' => L2.CX P w outer H s E e' s'') rfl⟩
    have tk : Takes (cxOf (L2.CX P w) P w K mg base N qual (defScope st) f cdv A outer s H E) (fun cls d _ H' => E cls d H') := takes_of (E₁ := fun e' s'' => L2.CX P w outer H s E e' s'') rfl rfl rfl rfl
    have ht := hb cdv rfl A outer s H E g tk
    obtain ⟨c, st0, ds, w0, rds, hp⟩ := hsp
    have hrd : rdS (cxOf (L2.CX P w) P w K mg base N qual (defScope st) f cdv A outer s H E) (fun cls d _ H' => E cls d H') body { nx := fun _ H' => Q .non H', rt := Q } (L2.start N vs) H := by
      refine ⟨c, startE N.length ds, st0, ?_, w0, retR_post hp.cutIf⟩
      unfold startE L2.start
      rw [rds.len]
      exact start_env _ rds
    refine wpAny_mono (ht.run [] s1 _ H _ I hrd) (fun fl s' hs => ?_) fun e s' hs => hs
    have fin : ∀ {σ' : Sl} {H' : Hp} {v : V} {u : Value}, Inv (cxOf (L2.CX P w) P w K mg base N qual (defScope st) f cdv A outer s H E) [] σ' H' s' → RelV v u → Q v H' → CE outer P w H s Q u s' :=
      fun {_ H' v _} J rv q => ⟨v, H', J.os, J.bare, J.base, J.hok, rv, q⟩
    match fl, hs with
    | .ret u, ⟨v, σ', H', J, rv, q⟩ => exact fin J rv q
    | .next, ⟨σ', H', J, q⟩ => exact fin (v := V.non) (u := Value.none) J rfl q
    | .brk, ⟨_, _, _, q⟩ => exact False.elim q
    | .cont, ⟨_, _, _, q⟩ => exact False.elim q
/-- a def of the module, known by its name -/
theorem has_of {x : Str} {st : Stmt} {f : Addr} {fd : FuncData} {ps : List Str} {k np : Nat} {nb : Bool} {m : List D → Sto → R D} (F : Fun K x x st f fd) (hm : mg x = some (.ref f)) (hb : Binds K fd ps []) (G : FnG P w K mg base k nb f fd np ps m) : Has P w K mg base x np k nb m :=
  ⟨f, fd, ps, hm, F.kp, hb, G⟩
end
/-! ## the end of a law -/
/-- an empty table -/
abbrev tb0 : Obj := { cls := .none, data := .fields #[] }
/-- the heap at a law's start: the script, the tables -/
structure St0 (K : PySem.W.Frag) (mg mb : Str → Option Value) (cs : List (Addr × Addr)) (a : Addr) (vs : List Value) (h : Heap) : Prop where
  kin : K.In h
  ns : h.Ns mainGlobals mg
  nb : h.Ns builtinsNs mb
  bb : ∀ x : Str, x ≠ "__name__" → mb x = bootBuiltins x
  lim : h.NoLimit
  tab : ∀ p ∈ cs, h.get? p.2 = some tb0
  ntb : ∀ p ∈ cs, K.lookup p.2 = none
  code : ∀ p ∈ cs, PySem.W.CodeHd h p.1 p.2
  bm : ∃ (bm : Addr) (ob : Obj), mg "__builtins__" = some (.ref bm) ∧ bm ≠ builtinsNs ∧ h.get? bm = some ob ∧ ob.cls = .type "module" ∧ ob.dict = some builtinsNs ∧ ob.data = .plain
  at_a : h.get? a = some { cls := .type "list", data := .seq vs.toArray }
/-- what may be tracked there -/
structure Tr0 (K : PySem.W.Frag) (cs : List (Addr × Addr)) (a : Addr) (H : Hp) : Prop where
  tab : ∀ p ∈ cs, H p.2 = some (.tbl #[])
  one : ∀ b u, H b = some u → (b = a ∧ ∃ o xs, u = .frz o (.lst xs)) ∨ ∃ p ∈ cs, p.2 = b
  kn : H a ≠ none → K.lookup a = none
section
variable {P : Program} {w : World} {K : PySem.W.Frag} {mg mb : Str → Option Value} {cs : List (Addr × Addr)} {a : Addr} {vs : List Value} {h : Heap} {H : Hp}
/-- an object that is neither a sequence nor an empty table is not tracked -/
theorem St0.off (S : St0 K mg mb cs a vs h) (t : Tr0 K cs a H) {b : Addr} {o : Obj} (e : h.get? b = some o) (n1 : ∀ xs n, o.data ≠ .seq xs n) (n2 : o.data ≠ .fields #[]) : H b = none := by
  cases q : H b with
  | none => rfl
  | some u =>
    exfalso
    rcases t.one b u q with ⟨rfl, _⟩ | ⟨p, hp, rfl⟩
    · have z := e.symm.trans S.at_a
      cases z
      exact n1 _ _ rfl
    · have z := e.symm.trans (S.tab p hp)
      cases z
      exact n2 rfl
theorem St0.hid (S : St0 K mg mb cs a vs h) (t : Tr0 K cs a H) {b : Addr} {m : Str → Option Value} (x : h.Ns b m) : (hidT h H).Ns b m := by
  obtain ⟨o, es, ep, e, d, r⟩ := x
  exact ⟨o, es, ep, hidT_get e (S.off t e (fun _ _ z => by rw [d] at z; cases z) (fun z => by rw [d] at z; cases z)), d, r⟩
theorem St0.kinT (S : St0 K mg mb cs a vs h) (t : Tr0 K cs a H) : K.In (hidT h H) := fun b o e => by
  refine hidT_get (S.kin b o e) ?_
  cases q : H b with
  | none => rfl
  | some u =>
    exfalso
    rcases t.one b u q with ⟨rfl, _⟩ | ⟨p, hp, rfl⟩
    · rw [t.kn (by rw [q]; exact fun z => by cases z)] at e
      cases e
    · rw [S.ntb p hp] at e
      cases e
theorem St0.modT (S : St0 K mg mb cs a vs h) (t : Tr0 K cs a H) : Mod K mg (hidT h H) := by
  obtain ⟨mc, h1, h2⟩ := S.lim
  exact ⟨S.kinT t, S.hid t S.ns, ⟨mb, S.hid t S.nb, S.bb⟩, mc, S.hid t h1, h2⟩
theorem St0.tabB (S : St0 K mg mb cs a vs h) (t : Tr0 K cs a H) : ∀ p ∈ cs, LamX.TabB (hidT h H) mg p.1 p.2 := fun p hp => by
  have at_p := S.tab p hp
  have hg : mainGlobals ≠ p.2 := fun z => by
    obtain ⟨o, es, ep, e, d, _⟩ := S.ns
    rw [z, at_p] at e
    cases e
    cases d
  refine ⟨?_, ?_, hg⟩
  · obtain ⟨o, us, file, tf, fl, tg, inF, tx, tt, e1, r1, r2, r3, rest⟩ := S.code p hp
    exact ⟨o, us, file, tf, fl, tg, inF, tx, tt, hidT_get e1 (S.off t e1 (fun _ _ z => by rw [r2] at z; cases z) (fun z => by rw [r2] at z; cases z; simp at r3)), r1, r2, r3, rest⟩
  · obtain ⟨bm, ob, b1, b2, b3, b4, b5, b6⟩ := S.bm
    refine ⟨bm, ob, b1, b2, fun q => ?_, fun q => ?_, hidT_get b3 (S.off t b3 (fun _ _ z => by rw [b6] at z; cases z) (fun z => by rw [b6] at z; cases z)), b4, b5, b6⟩
    · obtain ⟨o, es, ep, e, d, _⟩ := S.ns
      rw [q, e] at b3
      cases b3
      rw [d] at b6
      cases b6
    · rw [q, at_p] at b3
      cases b3
      cases b6
variable {k : Nat} {nb : Bool} {fa : Addr} {fd : FuncData} {x : Str} {m : List D → Sto → R D} {s₁ : Shared} {ns : List Int}
/-- from a heap in which the script and the tables may be tracked -/
theorem law_run (S : St0 K mg mb cs a vs s₁.heap) (t : Tr0 K cs a H) (hok : HOk P w H s₁.heap) (hS : SlL K H a (ns.map V.int)) (hTb : ∀ q ∈ Tbs.T, ∃ c, (c, q.1) ∈ cs) (hg : s₁.gens = #[]) (hr : Room k callerA)
    (F : ∀ base : Heap, K.In base → base.Ns mainGlobals mg → (∀ p ∈ cs, LamX.TabB base mg p.1 p.2) → FnG P w K mg base k nb fa fd 1 [x] m) (hbind : ∀ (s : Shared) (u : Value), BindsTo s fd ⟨[u], []⟩ [(x, u)])
    (hm : ∃ st', m [.sl (ns.map .int)] [] = .ok (.p (.bool true)) st') :
    codeAny (model P w) callerA (.call (.ref fa) ⟨[.ref a], []⟩) (fun r s' => r = .ok (.ret (.bool true)) ∧ OldK s₁.heap s'.heap ∧ s'.os = s₁.os ∧ AllBare s'.gens) s₁ := by
  obtain ⟨st', hm⟩ := hm
  have e0 : Env0 P w K mg (hidT s₁.heap H) callerA [] s₁ H := ⟨rfl, S.modT t, fun _ _ e => of_hidT e, Nat.le_of_eq (hidT_size ..), trivial, fun b hb => (by cases (show b ∈ ([] : List Addr) from hb)), hok, .of_eq hg⟩
  have wd : Wd K mg (⟨fun _ => False, fun _ => 0⟩ : Cf) H [] := ⟨fun i o e => by simp at e, fun i j hi => by simp at hi, fun i hi => by simp at hi, fun a h => h.elim, fun q hq => by
    obtain ⟨c, hc⟩ := hTb q hq
    exact .nil (t.tab _ hc)⟩
  have rds : RepDs K (⟨fun _ => False, fun _ => 0⟩ : Cf) 0 H [.sl (ns.map .int)] [.ref a] := ⟨.ref a, [], rfl, ⟨a, _, rfl, hS, rep_ints⟩, rfl⟩
  have sp : spM K mg m [.ref a] H (fun v _ => v = .bl true) fun _ _ _ => False := ⟨_, [], _, wd, rds, by rw [hm]; exact fun _ _ _ _ _ r => r⟩
  refine codeAny_mono ((F _ (S.kinT t) (S.hid t S.ns) (S.tabB t)).run callerA [] s₁ H ⟨[.ref a], []⟩ [.ref a] [.ref a] _ _ hr (fun _ => rfl) e0 (hbind s₁ (.ref a)) (.cons rfl .nil) rfl sp) fun r s' h => ?_
  match r, h with
  | .error e, ⟨_, _, _, _, _, _, _, _, _, _, _, _, q⟩ => exact q.elim
  | .ok (.ret u), ⟨v, H', os, bare, un, ok', r', q⟩ =>
    have q' : v = .bl true := q
    subst q'
    obtain rfl : u = Value.bool true := r'
    have more : ∀ p ∈ cs, ∃ z : Array Value, s'.heap.get? p.2 = some { cls := .none, data := .fields (#[] ++ z) } := fun p hp => by
      obtain ⟨z, e⟩ := un.tbls p.2 #[] (t.tab p hp)
      exact ⟨z, ok' p.2 _ e⟩
    have keep : ∀ b o, (∀ p ∈ cs, p.2 ≠ b) → s₁.heap.get? b = some o → s'.heap.get? b = some o := fun b o nb e => by
      cases q : H b with
      | none => exact un.keep b o e q (fun z => by cases (show b ∈ ([] : List Addr) from z)) (by simp)
      | some u =>
        rcases t.one b u q with ⟨_, ob, xs, rfl⟩ | ⟨p, hp, e'⟩
        · have z1 := (hok b _ q).1
          have z2 := (ok' b _ (un.frzs b ob _ q)).1
          rw [e] at z1
          cases z1
          exact z2
        · exact absurd e' (nb p hp)
    refine ⟨rfl, ⟨fun b o e => ?_, fun b o e => ?_⟩, os, bare⟩
    · rcases Classical.em (∃ p ∈ cs, p.2 = b) with ⟨p, hp, rfl⟩ | nb
      · obtain ⟨z, ez⟩ := more p hp
        rw [S.tab p hp] at e
        cases e
        exact .inr (.inl ⟨((S.code p hp).tab (S.tab p hp)).isCodeTable, rfl, #[], z, rfl, ez⟩)
      · exact .inl (keep b o (fun p hp e' => nb ⟨p, hp, e'⟩) e)
    · rcases Classical.em (∃ p ∈ cs, p.2 = b) with ⟨p, hp, rfl⟩ | nb
      · obtain ⟨z, ez⟩ := more p hp
        exact ⟨_, ez⟩
      · exact ⟨o, keep b o (fun p hp e' => nb ⟨p, hp, e'⟩) e⟩
/-- the law's def keeps its mirror, which gives True at every script -/
theorem law_end (S : St0 K mg mb cs a vs s₁.heap) (hi : IntsAre vs ns) (hl : ns.length ≤ sizeLine) (hTb : ∀ q ∈ Tbs.T, ∃ c, (c, q.1) ∈ cs) (hg : s₁.gens = #[]) (hr : Room k callerA)
    (F : ∀ base : Heap, K.In base → base.Ns mainGlobals mg → (∀ p ∈ cs, LamX.TabB base mg p.1 p.2) → FnG P w K mg base k nb fa fd 1 [x] m) (hbind : ∀ (s : Shared) (u : Value), BindsTo s fd ⟨[u], []⟩ [(x, u)])
    (hm : ∃ st', m [.sl (ns.map .int)] [] = .ok (.p (.bool true)) st') :
    codeAny (model P w) callerA (.call (.ref fa) ⟨[.ref a], []⟩) (fun r s' => r = .ok (.ret (.bool true)) ∧ OldK s₁.heap s'.heap ∧ s'.os = s₁.os ∧ AllBare s'.gens) s₁ := by
  have rv := vals_ints hi
  have lenV := hi.length
  have na : ∀ p ∈ cs, p.2 ≠ a := fun p hp z => by
    have e := S.tab p hp
    rw [z, S.at_a] at e
    cases e
  let T0 : Hp := fun b => open Classical in if ∃ p ∈ cs, p.2 = b then some (.tbl #[]) else none
  have T0p : ∀ p ∈ cs, T0 p.2 = some (.tbl #[]) := fun p hp => if_pos ⟨p, hp, rfl⟩
  have T0i : ∀ b u, T0 b = some u → u = .tbl #[] ∧ ∃ p ∈ cs, p.2 = b := fun b u e => by
    rcases Classical.em (∃ p ∈ cs, p.2 = b) with c | c
    · have z := (if_pos (e := (none : Option HO)) c).symm.trans e
      cases z
      exact ⟨rfl, c⟩
    · have z := (if_neg c).symm.trans e
      cases z
  have T0a : T0 a = none := if_neg fun ⟨p, hp, e⟩ => na p hp e
  have okT : ∀ b u, T0 b = some u → s₁.heap.get? b = some tb0 := fun b u e => by
    obtain ⟨_, p, hp, rfl⟩ := T0i b u e
    exact S.tab p hp
  cases hk : K.lookup a with
  | some o =>
    have e := S.kin a o hk
    rw [S.at_a] at e
    cases e
    refine law_run (H := T0) S ⟨T0p, fun b u e => .inr (T0i b u e).2, fun z => absurd T0a z⟩ (fun b u e => ?_) (.inr ⟨_, vs.toArray, _, hk, rfl, rfl, rfl, by rw [List.size_toArray, lenV]; exact hl, by simpa using rv⟩) hTb hg hr F hbind hm
    have := okT b u e
    rw [(T0i b u e).1]
    exact this
  | none =>
    let sc : HO := .frz { cls := .type "list", data := .seq vs.toArray } (.lst (ns.map V.int))
    have at_a : upd T0 a sc a = some sc := upd_same
    refine law_run (H := upd T0 a sc) S ⟨fun p hp => by rw [upd_ne (na p hp)]; exact T0p p hp, fun b u e => ?_, fun _ => hk⟩ (fun b u e => ?_) (.inl ⟨_, at_a⟩) hTb hg hr F hbind hm
    · by_cases hb : b = a
      · subst hb
        rw [at_a] at e
        cases e
        exact .inl ⟨rfl, _, _, rfl⟩
      · rw [upd_ne hb] at e
        exact .inr (T0i b u e).2
    · by_cases hb : b = a
      · subst hb
        rw [at_a] at e
        cases e
        exact ⟨S.at_a, by rw [List.length_map]; exact hl, vs, _, rv, S.at_a⟩
      · rw [upd_ne hb] at e
        have := okT b u e
        rw [(T0i b u e).1]
        exact this
end
omit [Tbs] in
theorem walk_end {l : PySem.W.OpenLaw} {n k : Nat} {nb : Bool} {q : Program} {loose : List Str} {XP : (Str → Option Value) → Heap → Prop} {YP : World → Heap → Prop} {d : DefRec} {K : Params → PySem.W.Frag} {x : Str} {m : List D → Sto → R D}
    (hn : l.most = some n) (hn2 : n ≤ sizeLine) (hdf : d.params.defaults = []) (hr : Room k callerA) (hY : ∀ (w : World) (h : Heap), YP w h → (K w.params).In h)
    (F : ∀ (w : World) (mg : Str → Option Value) (fa : Addr) (h : Heap), YP w h → (K w.params).In h → h.Ns mainGlobals mg → mg d.name = some (.ref fa) →
      ∃ (T : Tbs) (cs : List (Addr × Addr)) (fd : FuncData), (∀ p ∈ cs, h.get? p.2 = some tb0) ∧ (∀ p ∈ cs, (K w.params).lookup p.2 = none) ∧ (∀ p ∈ cs, PySem.W.CodeHd h p.1 p.2) ∧ (∀ q ∈ T.T, ∃ c, (c, q.1) ∈ cs) ∧
        (∀ (s : Shared) (u : Value), BindsTo s fd ⟨[u], []⟩ [(x, u)]) ∧ ∀ base : Heap, (K w.params).In base → base.Ns mainGlobals mg → (∀ p ∈ cs, LamX.TabB base mg p.1 p.2) → FnG l.prog w (K w.params) mg base k nb fa fd 1 [x] m)
    (hm : ∀ ns : List Int, ns.length ≤ n → ∃ st', m [.sl (ns.map .int)] [] = .ok (.p (.bool true)) st') :
    PySem.W.WalkO q loose XP YP l.row.toRowW d [] (fun f vs => PySem.call f vs) := by
  refine Att.attach_call hn hdf fun w s₀ s₁ mg mb fa o pm cd doc a vs ns G Y ho hd hcd hmg hobj hints hlen hg => ?_
  have KX := hY w _ Y
  obtain ⟨T, cs, fd, h1, h2, h3, h4, hb, hF⟩ := F w mg fa _ Y KX G.T.g hmg
  exact law_end ⟨KX, G.T.g, G.T.b, G.T.builtins, G.T.nolimit, h1, h2, h3, G.T.bmain, hobj⟩ hints (Nat.le_trans hlen hn2) h4 hg hr hF hb (hm ns hlen)
end MV

set_option Elab.async false
set_option linter.all false
set_option maxRecDepth 100000
set_option maxHeartbeats 400000
namespace MV
open PySem PySem.Spec PyProof.Rows L2
variable [Tbs]
theorem GX.u64 {X : Cx} {k : Nat} {nb : Bool} (g : GX X k nb) : X.A.units + 64 < cLine := g.hr.units
theorem GX.u66 {X : Cx} {k : Nat} {nb : Bool} (g : GX X k nb) : X.A.units + 66 < cLine := by have := g.hr.un; omega
/-- a constant of the module -/
def IsC (K : PySem.W.Frag) (mg : Str → Option Value) (x : Str) (d : PyData) : Prop := ∃ v u, mg x = some u ∧ RelV v u ∧ ∀ F H, RepP K F H d v
section
variable {X : Cx} {W : WX} {e a b c' : Expr} {es : List Expr} {pos p p2 : Pos}
theorem e_glc {x : Str} {d : PyData} (h : IsC X.K X.mg x d) (hg : Gl X x := by rfl) (hd : (x == ("__debug__" : Str)) = false := by decide) : PE X (.Name x pos) (rdE X W (fK d)) := by
  obtain ⟨v, u, hm, r, rep⟩ := h
  exact e_gl hm r rep hg hd
def boolD : D → Sto → R Bool
  | .p (.bool b), st => .ok b st
  | _, _ => .bad
theorem boolD_ok {K : PySem.W.Frag} {mg : Str → Option Value} {c : Cf} {st : Sto} {H : Hp} {d : D} {v : V} {E : XK} {Q : Bool → Hp → Prop} (w : Wd K mg c H st) (r : RepD K c st.length H d v) (h : Post K mg rpB c st.length H E Q (boolD d st)) : ∃ k, v = .bl k ∧ Q k H := by
  unfold boolD at h
  split at h
  · cases r
    exact ⟨_, rfl, h c H _ .refl w rfl⟩
  · exact h.elim
/-- a chain as a test -/
def fChT (g g' : D → D → Sto → R D) (fa fb fc : EF) : FT := fun env st => (fa env st).bind fun a s1 => (fb env s1).bind fun b s2 => (g a b s2).bind fun z s3 => (boolD z s3).bind fun k s => if k then (fc env s).bind fun c s4 => (g' b c s4).bind boolD else .ok false s
theorem t_chain {op op' : CmpOp} {fa fb fc : EF} {g g' : D → D → Sto → R D} (ho : OpS X (compareOp op) g) (ho' : OpS X (compareOp op') g') (ha : PE X a (rdE X W fa)) (hb : PE X b (rdE X W fb)) (hc : PE X c' (rdE X W fc))
    (hm : lastMarks [op, op'] [b, c'] = false := by with_unfolding_all rfl) : PT X (.Compare a [op, op'] [b, c'] pos) (rdT X W (fChT g g' fa fb fc)) :=
  PT.by (pt_chain ho ho' ha hb hc hm) fun σ H Q ⟨c, env, st, er, w, hp⟩ =>
    ⟨c, env, st, er, w, (Post.bind hp).mono fun x H1 ⟨c1, st1, a, g1, w1, ra, hp1⟩ => ⟨c1, env, st1, er.up g1, w1, (Post.bind hp1).mono fun y H2 ⟨c2, st2, b, g2, w2, rb, hp2⟩ =>
      ⟨c2, st2, a, b, _, w2, g2.repD ra, rb, (Post.bind (rp := rpD X.K) hp2).mono fun z H3 ⟨c3, st3, d, g3, w3, rz, hp3⟩ => by
        obtain ⟨k, rfl, c4, st4, k', g4, w4, e4, hp4⟩ := boolD_ok w3 rz (Post.bind (rp := rpB) hp3)
        subst e4
        refine ⟨k', rfl, ?_⟩
        cases k' with
        | true => exact ⟨c4, env, st4, (((er.up g1).up g2).up g3).up g4, w4, (Post.bind hp4).mono fun y' H5 ⟨c5, st5, b', g5, w5, rb', hp5⟩ => ⟨c5, st5, b, b', _, w5, g5.repD (g4.repD (g3.repD rb)), rb', (Post.bind (rp := rpD X.K) hp5).mono fun z' H6 ⟨c6, st6, d6, g6, w6, r6, hp6⟩ => boolD_ok w6 r6 hp6⟩⟩
        | false => exact ⟨false, rfl, hp4 c4 H3 _ .refl w4 rfl⟩⟩⟩⟩
/-- a comparison as a test -/
def fBT (g : D → D → Sto → R D) (fa fb : EF) : FT := fun env st => (fa env st).bind fun a s1 => (fb env s1).bind fun b s2 => (g a b s2).bind boolD
theorem t_cmp {op : CmpOp} {fa fb : EF} {g : D → D → Sto → R D} (ho : OpS X (compareOp op) g) (ha : PE X a (rdE X W fa)) (hb : PE X b (rdE X W fb)) (hm : behindInMarks op b = false := by first | exact nomark _ | rfl) : PT X (.Compare a [op] [b] pos) (rdT X W (fBT g fa fb)) :=
  PT.by (pt_cmpR ho ha hb hm) fun σ H Q ⟨c, env, st, er, w, hp⟩ =>
    ⟨c, env, st, er, w, (Post.bind hp).mono fun x H1 ⟨c1, st1, a, g1, w1, ra, hp1⟩ => ⟨c1, env, st1, er.up g1, w1, (Post.bind hp1).mono fun y H2 ⟨c2, st2, b, g2, w2, rb, hp2⟩ =>
      ⟨c2, st2, a, b, _, w2, g2.repD ra, rb, (Post.bind (rp := rpD X.K) hp2).mono fun z H3 ⟨c3, st3, d, g3, w3, rz, hp3⟩ => boolD_ok w3 rz hp3⟩⟩⟩
/-- times -/
def mulD (a b : D) (st : Sto) : R D := match a, b with
  | .p (.int i), .p (.int j) => if mulOk i j then .ok (.p (.int (i * j))) st else .bad
  | .p (.list ds), .p (.int k) => if (k ≤ lineN ∧ -lineN ≤ k) ∧ ds.length * k.toNat ≤ lineN then .ok (.p (.list (List.replicate k.toNat ds).flatten)) st else .bad
  | _, _ => .bad
theorem RepPs.rep {K : PySem.W.Frag} {F : Addr → Prop} {H : Hp} {ds : List PyData} {xs : List V} (r : RepPs K F H ds xs) : ∀ k : Nat, RepPs K F H (List.replicate k ds).flatten (List.replicate k xs).flatten
  | 0 => rfl
  | k + 1 => by
    rw [List.replicate_succ, List.replicate_succ, List.flatten_cons, List.flatten_cons]
    exact r.app (RepPs.rep r k)
theorem s_mulD : OpS X (binaryOp .Mult) mulD := by
  refine OpR.by (OpR.or op_mul op_rep) ?_
  rintro x y H Q ⟨c, st, a, b, E, w, ra, rb, h⟩
  unfold mulD at h
  split at h
  · rename_i i j
    cases ra
    cases rb
    obtain ⟨hl, h⟩ := Post.when h
    exact .inl ⟨i, j, rfl, rfl, by unfold mulOk at hl; show _ ∨ _; omega, h c H _ .refl w rfl⟩
  · rename_i ds k
    obtain ⟨p, xs, rfl, sp, rp⟩ := ra
    cases rb
    obtain ⟨⟨⟨h1, h2⟩, h3⟩, h⟩ := Post.when h
    have : (lineN : Int) = 1000000 := rfl
    exact .inr ⟨p, k, xs, rfl, rfl, sp.2, by omega, by omega, line_le (by rw [← rp.len]; exact h3), new_lst w (rp.rep k.toNat) h⟩
  · exact h.elim
/-- list(range(..)) -/
def fLR (m : Bool) (g : List D → Sto → R (List D)) (fa : FA) : EF := fun env st => (fa env st).bind fun as s => (g as s).bind fun ds s' => listOf m (.p (.list ((allP ds).getD []))) s'
end
section
variable {K : PySem.W.Frag} {mg : Str → Option Value}
theorem c_i {x : Str} {i : Int} {t : Tok} (h : mg x = some (.int i t)) : IsC K mg x (.int i) := ⟨.int i, _, h, ⟨t, rfl⟩, fun _ _ => rfl⟩
theorem c_t {x : Str} {a : Addr} {d : PyData} (h : mg x = some (.ref a)) (r : ∀ F H, RepP K F H d (.ref a)) : IsC K mg x d := ⟨.ref a, _, h, rfl, r⟩
theorem k_t {F : Addr → Prop} {H : Hp} {t : Addr} {od : Option Addr} {its : Array Value} {n : Nat} {sl : Array (Option Value)} {ds : List PyData} {xs : List V} (l : K.lookup t = some ⟨.type "tuple", od, .seq its n, sl⟩) (hz : its.size ≤ lineN) (hv : Vals xs its.toList) (r : RepPs K F H ds xs) : RepP K F H (.tuple ds) (.ref t) :=
  ⟨t, xs, rfl, .inr ⟨_, _, _, l, rfl, rfl, line_le hz, hv⟩, r⟩
theorem k_nil {F : Addr → Prop} {H : Hp} : RepPs K F H [] [] := rfl
theorem k_cons {F : Addr → Prop} {H : Hp} {d : PyData} {v : V} {ds : List PyData} {xs : List V} (h : RepP K F H d v) (r : RepPs K F H ds xs) : RepPs K F H (d :: ds) (v :: xs) := ⟨v, xs, rfl, h, r⟩
end
end MV

set_option Elab.async false
set_option linter.all false
set_option maxRecDepth 100000
set_option maxHeartbeats 400000
namespace MV
open PySem PySem.Spec PyProof.Rows L2
variable [Tbs]
/-! ## sorted of a tuple of whole numbers -/
def rSrtT (K : PySem.W.Frag) : List V → Hp → VK → Prop := fun vs H Q => ∃ (a : Addr) (ns : List Int), vs = [V.ref a] ∧ SqT K H a (ns.map V.int) ∧
  ∀ (ms : List Int) (p : Addr), ms.Perm ns → ms.Pairwise (· ≤ ·) → H p = none → Q (.ref p) (upd H p (.lst (ms.map V.int)))
theorem cr_srtT {X : Cx} : CallR X (.builtin "sorted") (rSrtT X.K) := by
  rintro pins s σ H vs us Q I r ⟨a, ns, rfl, hs, q⟩
  obtain ⟨its, rv, ⟨o, ho, hc, n, hd⟩, hz⟩ := I.tuple hs
  rw [Vals.ref1 r]
  have hi := rv.ints
  have hz2 : its.length ≤ sizeLine := by have := rv.length; omega
  refine Calls.call_function_entry kind_sorted plain_sorted entry_sorted (args_sorted1 _) (wpAny_bind (m := checkCount "sorted" 1 1 _) (wpAny_pure (wpAny_bind ?_)))
  refine wpAny_collect_seq a (.inr rfl) ho hc hd (fun h1 keep => ?_) (by rw [List.size_toArray]; exact hz2)
  have ea : its.toArray.toList = its := by simp
  rw [ea]
  refine wpAny_bind (wpAny_newList ?_ hz2)
  let h2 : Heap := h1.push (seqObj "list" its.toArray 0)
  have hob : h2.get? h1.objs.size = some (seqObj "list" its.toArray 0) := Heap.get?_push_size _ rfl
  have k2 : ∀ b u, s.heap.get? b = some u → h2.get? b = some u := fun b u e => Heap.get?_push_of_some _ (keep b u e)
  have I1 : Inv X pins σ H { s with heap := h1 } := I.kept (t' := s.toks) keep
  refine wpAny_bind (wpAny_holding (wpAny_call_entry slot_list_sort ⟨_, hob, rfl⟩ entry_list_sort (SrtO.list_sort_ord SrtO.swo_int hob hz2 (fun h => SrtO.ints_sortable hi h) fun out a1 a2 => ⟨.none, rfl, ?_⟩) (args_list_sort _)))
  refine wpAny_pure ⟨_, rfl, ?_⟩
  obtain ⟨b1, b2, b3⟩ := SrtO.ints_out hi a1 a2
  obtain ⟨ep, he⟩ := sortedHeap_at (vs := its) (out := out.toArray) hob
  have hq : ((out.map SrtO.iv).map V.int).length ≤ sizeLine := by
    have z := b2.length_eq
    rw [List.length_map] at z hz
    simpa [z] using hz
  have old : ∀ b u, h1.get? b = some u → (sortedHeap h2 h1.objs.size its out.toArray).get? b = some u := fun b u e => by
    have lt := Heap.lt_size e
    rw [sortedHeap_old (Nat.ne_of_lt lt) (Nat.lt_of_lt_of_le lt (by show _ ≤ (h1.push _).objs.size; simp [Heap.push]))]
    exact Heap.get?_push_of_some _ e
  refine ⟨.ref _, upd H h1.objs.size (.lst ((out.map SrtO.iv).map V.int)), I1.laid (t' := s.toks) old (Nat.le_refl _) ⟨hq, out, ep, vals_of_ints b1, he⟩, rfl, ?_⟩
  exact q _ _ b2 b3 (I1.hok.fresh (Nat.le_refl _))
def insI (x : Int) : List Int → List Int
  | [] => [x]
  | y :: r => if x ≤ y then x :: y :: r else y :: insI x r
def sortI : List Int → List Int
  | [] => []
  | x :: r => insI x (sortI r)
theorem insI_perm (x : Int) : ∀ l : List Int, (insI x l).Perm (x :: l)
  | [] => .refl _
  | y :: r => by
    unfold insI
    split
    · exact .refl _
    · exact ((insI_perm x r).cons y).trans (.swap x y r)
theorem sortI_perm : ∀ l : List Int, (sortI l).Perm l
  | [] => .refl _
  | x :: r => (insI_perm x (sortI r)).trans ((sortI_perm r).cons x)
theorem insI_sorted (x : Int) : ∀ {l : List Int}, l.Pairwise (· ≤ ·) → (insI x l).Pairwise (· ≤ ·)
  | [], _ => by simp [insI]
  | y :: r, h => by
    obtain ⟨h1, h2⟩ := List.pairwise_cons.mp h
    unfold insI
    split
    · rename_i c
      exact List.pairwise_cons.mpr ⟨fun z hz => by
        rcases List.mem_cons.mp hz with rfl | hz
        · exact c
        · exact Int.le_trans c (h1 z hz), h⟩
    · rename_i c
      exact List.pairwise_cons.mpr ⟨fun z hz => by
        rcases List.mem_cons.mp ((insI_perm x r).mem_iff.mp hz) with rfl | hz
        · omega
        · exact h1 z hz, insI_sorted x h2⟩
theorem sortI_sorted : ∀ l : List Int, (sortI l).Pairwise (· ≤ ·)
  | [] => .nil
  | x :: r => insI_sorted x (sortI_sorted r)
theorem sorted_eq : ∀ {l m : List Int}, l.Perm m → l.Pairwise (· ≤ ·) → m.Pairwise (· ≤ ·) → l = m
  | [], m, p, _, _ => by rw [p.symm.eq_nil]
  | x :: l, [], p, _, _ => by cases p.eq_nil
  | x :: l, y :: m, p, h, h' => by
    obtain ⟨h1, h2⟩ := List.pairwise_cons.mp h
    obtain ⟨h3, h4⟩ := List.pairwise_cons.mp h'
    have e : x = y := by
      have a : y ≤ x := by
        rcases List.mem_cons.mp (p.mem_iff.mp (List.mem_cons_self ..)) with e | e
        · omega
        · exact h3 x e
      have b : x ≤ y := by
        rcases List.mem_cons.mp (p.mem_iff.mpr (List.mem_cons_self ..)) with e | e
        · omega
        · exact h1 y e
      omega
    subst e
    rw [sorted_eq p.cons_inv h2 h4]
/-- sorted(t), t a tuple of whole numbers -/
def sortedD (d : D) (st : Sto) : R D := match d with
  | .p (.tuple ds) => match intsOf ds with
    | some ns => .ok (.p (.list ((sortI ns).map .int))) st
    | none => .bad
  | _ => .bad
theorem s_sorted {X : Cx} : CallS X (.builtin "sorted") (arg1 sortedD) := s_arg1 cr_srtT fun c st d E x H Q w r h => by
  unfold sortedD at h
  split at h
  · rename_i ds
    obtain ⟨p, xs, rfl, sq, rs⟩ := r
    split at h
    · rename_i ns e
      have ex := ints_rep e rs
      subst ex
      refine ⟨p, ns, rfl, sq, fun ms q h1 h2 hq => ?_⟩
      rw [sorted_eq (h1.trans (sortI_perm ns).symm) h2 (sortI_sorted ns)]
      exact new_lst w rep_ints h q hq
    · exact h.elim
  · exact h.elim
/-- list(range(n)) -/
def lrK (m : Bool) (d : D) (s : Sto) : R D := match d with
  | .p (.int n) => if n ≤ lineN ∧ -lineN ≤ n then listOf m (.p (.list (rngL 0 n.toNat))) s else .bad
  | _ => .bad
def fLr1 (m : Bool) (fa : EF) : EF := fun env st => (fa env st).bind (lrK m)
theorem rep_rng {K : PySem.W.Frag} {F : Addr → Prop} {H : Hp} (n : Int) : RepPs K F H (rngL 0 n.toNat) (rgV 0 n) := by
  have : ∀ l : List Nat, RepPs K F H (l.map fun i : Nat => PyData.int (0 + i)) (l.map fun i : Nat => V.int (0 + i)) := fun l => by
    induction l with
    | nil => rfl
    | cons i r ih => exact ⟨_, _, rfl, rfl, ih⟩
  have q := this (List.range n.toNat)
  unfold rngL rgV
  rw [show n - 0 = n by omega]
  exact q
theorem e_lr1 {X : Cx} {W : WX} {a : Expr} {fa : EF} {m : Bool} {p p2 pos pos2 : Pos} (hc : X.calm = true) (hm : X.mg "list" = none) (hr : X.mg "range" = none) (ha : PE X a (rdE X W fa)) (hg : Gl X "list" := by rfl) (hg2 : Gl X "range" := by rfl)
    (na : starEach [a] X.env = (false, eval a X.env) :: starEach [] X.env := by rfl) (nb : starEach [.Call (.Name "range" p2) [a] [] pos2] X.env = (false, eval (.Call (.Name "range" p2) [a] [] pos2) X.env) :: starEach [] X.env := by rfl) :
    PE X (.Call (.Name "list" p) [.Call (.Name "range" p2) [a] [] pos2] [] pos) (rdE X W (fLr1 m fa)) :=
  PE.by (pe_listRg hc hg hm (prg_1 hg2 hr ha na) nb) fun σ H Q ⟨c, env, st, er, w, hp⟩ => ⟨c, env, st, er, w, (Post.bind hp).mono fun x H1 ⟨c1, st1, d, g1, w1, ra, hp1⟩ => by
    unfold lrK at hp1
    split at hp1
    · rename_i n
      obtain ⟨⟨h1, h2⟩, hp1⟩ := Post.when hp1
      cases ra
      have e : (lineN : Int) = 1000000 := rfl
      refine ⟨n, rfl, ⟨by omega, by omega, by omega, by omega, by omega⟩, ?_⟩
      cases m with
      | true =>
        have hp1 : Post X.K X.mg (rpD X.K) c1 st1.length H1 _ Q (.ok (.r st1.length) (st1 ++ [.lst ((rngL 0 n.toNat).map .p)])) := hp1
        exact new_ref w1 (rep_all (rep_rng n)) hp1
      | false =>
        have hp1 : Post X.K X.mg (rpD X.K) c1 st1.length H1 _ Q (match allP ((rngL 0 n.toNat).map D.p) with
          | some ps => .ok (.p (.list ps)) st1
          | none => .bad) := hp1
        rw [allP_map] at hp1
        exact new_lst w1 (rep_rng n) hp1
    · exact hp1.elim⟩
end MV

set_option Elab.async false
set_option linter.all false
set_option maxRecDepth 100000
set_option maxHeartbeats 400000
namespace MV
open PySem PySem.Spec PyProof.Rows L2
variable [Tbs]
/-! ## raising -/
/-- what an own exception's __init__(self, what) keeps -/
def spInit (K : PySem.W.Frag) : Sp := fun vs H Q E => ∃ (a C : Addr) (y : V), vs = [.ref a, y] ∧ OexC K C ∧ PySem.W.findIn K (.ref C) "what" = some none ∧ H a = some (exo a C none) ∧
  ∀ dx, H dx = none → dx ≠ a → Q .non (upd (upd H dx (exd dx [("what", y)])) a (exo a C (some dx)))
omit [Tbs] in
theorem init_ok {P : Program} {w : World} {K : PySem.W.Frag} {mg : Str → Option Value} {base : Heap} {qual : Str} {st : Stmt} {f : Addr} {fd : FuncData} {k : Nat} {p1 p2 p3 p4 : Pos} (F : Fun K "__init__" qual st f fd) (S : FnScope ["self", "what"] ["self", "what"] (defScope st))
    (hv0 : Vis (defScope st) "self") (hv1 : Vis (defScope st) "what") (hbd : defBody st = [.Assign [.Attribute (.Name "self" p1) "what" p2] (.Name "what" p3) p4]) : FnOk P w K mg base C8.CX0 (k + 1) f fd ["self", "what"] (spInit K) := by
  obtain ⟨oc, od, kV, doc, pm, an, cdv, ct, osl, rfl, lk, hcd⟩ := F.ex
  refine fn_of lk hcd S (fun vs H Q E ⟨a, C, y, e, _⟩ => by rw [e]; rfl) fun A outer s H vs Q E hr ⟨a, C, y, e, T, hw, ha, q⟩ => ?_
  subst e
  rw [hbd]
  refine ⟨_, pss_one (ps_ost (pe_var (i := 0) rfl hv0) (pe_var (i := 1) rfl hv1)), ?_⟩
  exact ⟨y, rfl, .ref a, rfl, a, C, rfl, T, hw, .inl ⟨ha, q⟩⟩
/-- an own exception class of the module, with that __init__ -/
def IsEx (K : PySem.W.Frag) (mg : Str → Option Value) (x : Str) : Prop := ∃ (C fI : Addr) (fd : FuncData), mg x = some (.ref C) ∧ OexC K C ∧ PySem.W.findIn K (.ref C) "__init__" = some (some (.ref fI)) ∧ PySem.W.typeIn K (.ref fI) = some (.type "function") ∧
  PySem.W.findIn K (.ref C) "what" = some none ∧ Binds K fd ["self", "what"] [] ∧ ∀ (P : Program) (w : World) (base : Heap) (k : Nat), FnOk P w K mg base C8.CX0 (k + 1) fI fd ["self", "what"] (spInit K)
def cRaise (x : Str) (fa : FA) : SF := fun env st => (fa env st).go env fun as s => match as with
  | [d] => .exc x d env s
  | _ => .bad
section
variable {X : Cx} {W : WX} {e : Expr} {x : Str} {fa : FA} {k : Nat} {p pos pos' : Pos}
theorem c_raise {nb : Bool} (g : GX X (k + 2) nb) (tk : Takes X W) (h : IsEx X.K X.mg x) (ha : PA X [e] (rdA X W fa)) (hg : Gl X x := by rfl) (hdb : (x == ("__debug__" : Str)) = false := by decide) (he : starEach [e] X.env = (false, eval e X.env) :: starEach [] X.env := by rfl) :
    PS X (.Raise (some (.Call (.Name x p) [e] [] pos)) none pos') (rdS X W (cRaise x fa)) := by
  obtain ⟨C, fI, fd, hm, T, iC, tI, hw, hb, F⟩ := h
  refine PS.by (ps_raise g.calm tk (pmk_oex (CX := C8.CX0) (k := k + 1) (ds := []) (dvs := []) T iC tI (F _ _ _ k) g.hr hb .nil (fun _ _ _ _ _ _ _ z => z.elim) hg hm ha hdb he rfl)) fun D σ H hh => ?_
  obtain ⟨c, env, st, er, w, hp⟩ := rdS.go (rp := rpL X.K) (k := fun as env s => match as with
    | [d] => .exc x d env s
    | _ => .bad) hh
  refine ⟨c, env, st, er, w, hp.mono fun vs H1 ⟨c1, env1, st1, as, e1, w1, ra, q⟩ => ?_⟩
  split at q
  · rename_i d
    obtain ⟨v, rfl, rv⟩ := ds1 ra
    refine ⟨by simp, fun a hn => ⟨a, C, v, rfl, T, hw, upd_same, fun dx h1 h2 => ⟨rfl, dx, [("what", v)], upd_same, ?_, ?_, ?_⟩⟩⟩
    · rw [upd_ne h2, upd_same]
    · rw [upd_ne h2] at h1
      exact h1
    · rw [upd_ne h2] at h1
      have eH : upd (L2.del (upd (upd (upd H1 a (exo a C none)) dx (exd dx [("what", v)])) a (exo a C (some dx))) a) dx (.xd [("what", v)]) = upd H1 dx (.xd [("what", v)]) := by
        funext b
        by_cases hb : b = dx
        · rw [hb, upd_same, upd_same]
        · rw [upd_ne hb, upd_ne hb]
          by_cases hb2 : b = a
          · rw [hb2, L2.del_same, hn]
          · rw [L2.del_ne hb2, upd_ne hb2, upd_ne hb, upd_ne hb2]
      rw [eH]
      exact q c1 _ σ C dx v (w1.grow h1 _) (w1.fresh h1 _) (e1.up (w1.grow h1 _)) hm upd_same ((w1.grow h1 _).repD rv)
  · exact q.elim
end
end MV

set_option Elab.async false
set_option linter.all false
set_option maxRecDepth 100000
set_option maxHeartbeats 400000
namespace MV
open PySem PySem.Spec PyProof.Rows L2 LamX
variable [Tbs]
/-! ## a lambda handed to a def that tries it -/
/-- what `try: call() / except C: return False / return True` makes of the lambda's reading -/
def TLet (K : PySem.W.Frag) (CS : Addr) : (XK → Hp → VK → Prop) → Hp → VK → Prop := fun tl H Q =>
  tl (fun cls _ H' => PySem.W.exmOne K cls (.ref CS) = some true ∧ Q (.bl false) H') H fun _ H' => Q (.bl true) H'
omit [Tbs] in
theorem let_gives {X : Cx} {Ng : List Str} {x a e q : Str} {sg : Scope} {g CS : Addr} {cdg : Value} {j j2 : Nat} {p1 p2 p3 p4 p5 p6 p7 p8 p9 p10 : Pos} (hge : sg.names.lookup e = some .globalImplicit) (hme : X.mg e = some (.ref CS)) (hde : (e == ("__debug__" : Str)) = false)
    (h0 : ∀ f : Addr, (L2.start Ng [V.ref f])[0]? = some (some (V.ref f)))
    (hsw : ∀ (s : Shared) (H : Hp) (pn : List (Addr × Obj)) (xe : Value → Shared → Prop), swapsWith (.Call (.Name a p1) [] [] p2) none p3.line (((cxOf C8.CX0 X.prog X.w X.K X.mg X.base Ng x sg g cdg X.A X.stack s H C8.E0).nox).tr pn xe).env = pure false) :
    GivesTo X Ng x sg g cdg [.Try [.Expr (.Call (.Name a p1) [] [] p2) p3] [.ExceptHandler (some (.Name e p4)) none [.Return (some (.Constant (.bool false) j p5)) p6] p7] [] [] p8, .Return (some (.Constant (.bool true) j2 p9)) p10] a q (TLet X.K CS) := by
  intro f c' s H Q tl act hc h
  let Z : Cx := (cxOf C8.CX0 X.prog X.w X.K X.mg X.base Ng x sg g cdg X.A X.stack s H C8.E0).nox
  have hgl : Gl Z e := hge
  let rd0 : WX → TS := fun W D σ H => ∃ Ech : XK, (∀ cls d σ' H', Ech cls d H' → W cls d σ' H') ∧ σ[0]? = some (some (.ref f)) ∧ H c' = some (CodeO c' q) ∧ tl Ech H fun _ H' => D.nx σ H'
  have body : ∀ (W : WX) (pn : List (Addr × Obj)) (xe : Value → Shared → Prop), Takes (Z.tr pn xe) W → PassesOwn (model Z.prog Z.w) Z.A Z.env xe → PSs (Z.tr pn xe) [.Expr (.Call (.Name a p1) [] [] p2) p3] (rd0 W) := fun W pn xe tk _ => by
    refine ⟨fun pins s' σ H' D I ⟨Ech, hW, h1, h2, h3⟩ => ?_⟩
    exact (pss_one (ps_expr (act W pn xe Ech p1 p2 tk hW) (hsw s H pn xe))).run pins s' σ H' D I ⟨h1, h2, h3⟩
  refine ⟨_, pss_cons (ps_try_only (X := Z) (c := .ref CS) (tb := rd0) rfl rfl ⟨hgl, hde, .inl hme⟩ LamX.takes0 body (fun a oe cls d pn _ _ => pss_one (ps_ret pe_bl))) (pss_one (ps_ret pe_bl)), ?_⟩
  exact ⟨_, fun cls d σ' H' z => ⟨true, z.1, fun _ _ _ => z.2, fun z => by cases z⟩, h0 f, hc, h⟩
/-- the def that tries what it got: x, the class that it catches: e -/
def IsLet (K : PySem.W.Frag) (mg : Str → Option Value) (x e : Str) (CS : Addr) : Prop := ∃ (g : Addr) (st : Stmt) (fd : FuncData) (j j2 : Nat) (p1 p2 p3 p4 p5 p6 p7 p8 p9 p10 : Pos), mg x = some (.ref g) ∧ mg e = some (.ref CS) ∧ Fun K x x st g fd ∧ Binds K fd ["call"] [] ∧ FnScope ["call"] ["call"] (defScope st) ∧
  Vis (defScope st) "call" ∧ (defScope st).names.lookup e = some .globalImplicit ∧
  defBody st = [.Try [.Expr (.Call (.Name "call" p1) [] [] p2) p3] [.ExceptHandler (some (.Name e p4)) none [.Return (some (.Constant (.bool false) j p5)) p6] p7] [] [] p8, .Return (some (.Constant (.bool true) j2 p9)) p10]
/-- what the maker of lambdas knows of its code object and its table -/
structure LamK (X : Cx) : Prop where
  ex : ∃ c P, X.env.code = .ref c ∧ TabB X.base X.mg c P ∧ (P, X.env.qual ++ "<lambda>") ∈ Tbs.T ∧ ∀ p ∈ Tbs.T, p.1 = P → p.2 = X.env.qual ++ "<lambda>"
/-- is_let(lambda: ..): cs, the classes that are caught -/
def fLet (cs : List Str) (fe : EF) : EF := fun env st => match fe env st with
  | .ok _ s => .ok (.p (.bool true)) s
  | .exc c _ s => if cs.contains c then .ok (.p (.bool false)) s else .bad
  | .bad => .bad
omit [Tbs] in
theorem exn_tab {H H1 : Hp} (x : ExtN H H1) {a : Addr} {u : HO} (h : H a = some u) (n : ∀ ps, u ≠ .tbl ps) : H1 a = some u := x a u h n
theorem Wd.exn {K : PySem.W.Frag} {mg : Str → Option Value} {c : Cf} {H H1 : Hp} {st : Sto} (w : Wd K mg c H st) (x : ExtN H H1) (t : Tabs Tbs.T H1) : Gr c st.length H c st.length H1 ∧ Wd K mg c H1 st := by
  have g : Gr c st.length H c st.length H1 := ⟨fun a u h s => x a u h (fun ps z => by subst z; cases s), fun a h => ⟨h, by
    obtain ⟨xs, e⟩ := w.fz a h
    rw [e]
    exact x a _ e (fun ps z => by cases z)⟩, fun _ _ => rfl, Nat.le_refl _, fun q hq _ => t q hq⟩
  refine ⟨g, fun i o e => ?_, w.inj, w.nf, fun a h => ?_, t⟩
  · have r := w.ob i o e
    obtain ⟨u, hu, pl⟩ := r.plain
    exact g.repO (by rw [hu]; exact x _ _ hu pl.notbl.1) r
  · obtain ⟨xs, e⟩ := w.fz a h
    exact ⟨xs, x a _ e (fun ps z => by cases z)⟩
theorem e_let {X : Cx} {W : WX} {x e : Str} {CS : Addr} {k : Nat} {nb : Bool} {cs : List Str} {params : Arguments} {body : Expr} {scope : Scope} {fe : EF} {p lpos pos : Pos} (g : GX X (k + 2) nb) (hl : IsLet X.K X.mg x e CS) (hk : LamK X)
    (hcs : ∀ y ∈ cs, ∀ C, X.mg y = some (.ref C) → PySem.W.exmOne X.K (.ref C) (.ref CS) = some true) (L : LamS X.env.scope scope)
    (hb : ∀ (A : Around) (outer : List Env) (s : Shared) (H : Hp) (E : XK) (f c' : Addr), GX (lamCx X A outer s H E scope f c') k false → Takes (lamCx X A outer s H E scope f c') (fun cls d _ H' => E cls d H') → PE (lamCx X A outer s H E scope f c') body (rdE (lamCx X A outer s H E scope f c') (fun cls d _ H' => E cls d H') fe))
    (hdef : defaultsOf params X.env = ([], []) := by rfl) (hbind : ∀ (q : Str) (cl : List (Str × Addr)) (pm cv ctv : Value), bindArgs (PySem.W.kla_fn "<lambda>" q params body scope cl pm cv ctv) ⟨[], []⟩ = pure [] := by intros; rfl)
    (hg : Gl X x := by rfl) (hde : (e == ("__debug__" : Str)) = false := by decide) (hdb : (x == ("__debug__" : Str)) = false := by decide) : PE X (.Call (.Name x p) [.Lambda params body scope lpos] [] pos) (rdE X W (fLet cs fe)) := by
  obtain ⟨f0, st, fd, j, j2, p1, p2, p3, p4, p5, p6, p7, p8, p9, p10, hm, hme, F, hbn, S, hv, hge, hbd⟩ := hl
  obtain ⟨oc, od, kV, doc, pm, an, cdv, ct, osl, rfl, lk, hcd⟩ := F.ex
  obtain ⟨c, P, hcode, TB, hT, hu⟩ := hk.ex
  have G : GivesTo X ["call"] x (defScope st) f0 cdv (defBody st) "call" (X.env.qual ++ "<lambda>") (TLet X.K CS) := by
    rw [hbd]
    exact let_gives hge hme hde (fun _ => rfl) (fun _ _ _ _ => rfl)
  refine PE.by (pe_lamcall (T := Tbs.T) (Ng := ["call"]) (t := fun E => rdE X (fun cls d _ H' => E cls d H') fe) hg hm F.kp lk hcd hbn S rfl hv G TB hcode hT hu g.hr L hdef hbind (fun A outer s H E f c' hr => ?_) hdb) fun σ H Q ⟨c0, env, st0, er, w, hp⟩ => ?_
  · exact hb A outer s H E f c' ⟨hr, (fun z => by cases z), rfl, g.nd, passes_of (E₁ := fun e' s'' => L2.CX X.prog X.w outer H s E e' s'') rfl⟩ (takes_of (E₁ := fun e' s'' => L2.CX X.prog X.w outer H s E e' s'') rfl rfl rfl rfl)
  · refine ⟨w.tabs, fun H1 xn t1 => ?_⟩
    obtain ⟨gr, w1⟩ := w.exn xn t1
    refine ⟨c0, env, st0, er.up gr, w1, ?_⟩
    unfold fLet at hp
    cases hf : fe env st0 with
    | ok d s =>
      rw [hf] at hp
      exact fun c' H' v g' w' _ => hp c' H' _ (gr.trans g') w' rfl
    | exc y d s =>
      rw [hf] at hp
      simp only at hp
      obtain ⟨hy, hp⟩ := Post.when hp
      exact fun c' H' C dx v g' w' hm' _ _ => ⟨hcs y (by simpa using hy) C hm', hp c' H' _ (gr.trans g') w' rfl⟩
    | bad => rw [hf] at hp; exact hp.elim
end MV

set_option Elab.async false
set_option linter.all false
set_option maxRecDepth 100000
set_option maxHeartbeats 400000
namespace MV
open PySem PySem.Spec PyProof.Rows L2
variable [Tbs]
/-! ## x in a list of data -/
def inD (neg : Bool) (a b : D) (st : Sto) : R D := match dat st a, dat st b with
  | some d, some (.list ds) => if SeqAt.shaped d = true ∧ SeqAt.shaped (.list ds) = true then .ok (.p (.bool (if neg then !ds.any (fun z => PyData.eqv z d) else ds.any fun z => PyData.eqv z d))) st else .bad
  | _, _ => .bad
section
variable {X : Cx}
theorem inD_ok {c : Cf} {st : Sto} {a b : D} {E : XK} {neg : Bool} {x y : V} {H : Hp} {Q : VK} (w : Wd X.K X.mg c H st) (ra : RepD X.K c st.length H a x) (rb : RepD X.K c st.length H b y) (h : Post X.K X.mg (rpD X.K) c st.length H E Q (inD neg a b st)) :
    ∃ d ds, Dp X.K H x d ∧ Dp X.K H y (.list ds) ∧ SeqAt.shaped d = true ∧ SeqAt.shaped (.list ds) = true ∧ Q (.bl (if neg then !ds.any (fun z => PyData.eqv z d) else ds.any fun z => PyData.eqv z d)) H := by
  unfold inD at h
  split at h
  · rename_i d ds h1 h2
    obtain ⟨⟨s1, s2⟩, h⟩ := Post.when h
    exact ⟨d, ds, dat_rep w ra h1, dat_rep w rb h2, s1, s2, h c H _ .refl w rfl⟩
  · exact h.elim
theorem s_in (hu : X.A.units + 66 < cLine) : OpS X (compareOp .In) (inD false) := by
  refine OpR.by (op_inD (by omega)) ?_
  rintro x y H Q ⟨c, st, a, b, E, w, ra, rb, h⟩
  exact inD_ok w ra rb h
theorem s_nin (hu : X.A.units + 66 < cLine) : OpS X (compareOp .NotIn) (inD true) := by
  refine OpR.by (op_notInD (by omega)) ?_
  rintro x y H Q ⟨c, st, a, b, E, w, ra, rb, h⟩
  exact inD_ok w ra rb h
end
/-! ## what the end of a law gathers -/
omit [Tbs] in
theorem ls_nil {K : PySem.W.Frag} {mg : Str → Option Value} {CS : Addr} : ∀ y ∈ ([] : List Str), ∀ C, mg y = some (.ref C) → PySem.W.exmOne K (.ref C) (.ref CS) = some true := fun _ h => by cases h
omit [Tbs] in
theorem ls_cons {K : PySem.W.Frag} {mg : Str → Option Value} {CS a : Addr} {x : Str} {ys : List Str} (h : mg x = some (.ref a)) (e : PySem.W.exmOne K (.ref a) (.ref CS) = some true) (r : ∀ y ∈ ys, ∀ C, mg y = some (.ref C) → PySem.W.exmOne K (.ref C) (.ref CS) = some true) :
    ∀ y ∈ x :: ys, ∀ C, mg y = some (.ref C) → PySem.W.exmOne K (.ref C) (.ref CS) = some true := fun y hy C hC => by
  rcases List.mem_cons.mp hy with rfl | hy
  · rw [h] at hC
    cases hC
    exact e
  · exact r y hy C hC
/-- the j-th statement of a class's body -/
def inCls : Stmt → Nat → Stmt
  | .ClassDef _ _ _ body _ _ _ _ _ _ _, j => body.getD j (.Pass ⟨0, 0, 0, 0⟩)
  | st, _ => st
end MV

set_option Elab.async false
set_option linter.all false
set_option maxRecDepth 100000
set_option maxHeartbeats 400000
namespace MV
open PySem PySem.Spec PyProof.Rows L2
/-! ## what the end of a law gathers of classes and tables -/
/-- the exception classes -/
def refL : List Str := "Refused" :: "BadSizes" :: "FewSpares" :: "FewRecords" :: "TooMany" :: "BadSworn" :: "BadMany" :: "BadFlag" :: "BadCommit" :: "Sworn" :: "Gap" :: "BadScript" :: "BadLast" :: "BadBoard" :: "BadStand" :: "BadRecord" :: "BadStep" :: "NotFree" :: "Spent" :: "Empty" :: "BadLog" :: "BadHabit" :: "Stopped" :: "FewBlocks" :: "BadLot" :: "NothingBack" :: "NothingAgain" :: "BadImage" :: "Unlike" :: "Lost" :: "BadWorths" :: "BadBlocks" :: "BadBlock" :: "BadWrites" :: "BadText" :: "Twice" :: "TooDeep" :: "Long" :: "NoSizes" :: "NoStore" :: []
theorem exm_of {K : PySem.W.Frag} {C S : Addr} {v : Bool} (h1 : PySem.W.subIn K (.ref S) (.type "BaseException") = some true) (h2 : PySem.W.isClsIn K S = true) (h3 : PySem.W.typeIn K (.ref S) = some (.type "type")) (h4 : PySem.W.subIn K (.ref C) (.ref S) = some v) : PySem.W.exmOne K (.ref C) (.ref S) = some v := by
  have h2' : (PySem.W.clsIn K S).isSome = true := h2
  have h5 : ((PySem.W.clsIn K S).isSome && PySem.W.typeIn K (.ref S) == some (.type "type")) = true := by rw [h2', h3]; rfl
  show (if (PySem.W.subIn K (.ref S) (.type "BaseException") == some true) = true then (if ((PySem.W.clsIn K S).isSome && PySem.W.typeIn K (.ref S) == some (.type "type")) = true then PySem.W.subIn K (.ref C) (.ref S) else none) else none) = some v
  rw [if_pos h5, h1, if_pos (by rfl)]
  exact h4
theorem ls_none {K : PySem.W.Frag} {mg : Str → Option Value} {CS : Addr} {x : Str} {ys : List Str} (h : mg x = none) (r : ∀ y ∈ ys, ∀ C, mg y = some (.ref C) → PySem.W.exmOne K (.ref C) (.ref CS) = some true) :
    ∀ y ∈ x :: ys, ∀ C, mg y = some (.ref C) → PySem.W.exmOne K (.ref C) (.ref CS) = some true := fun y hy C hC => by
  rcases List.mem_cons.mp hy with rfl | hy
  · rw [h] at hC
    cases hC
  · exact r y hy C hC
/-- the init def of the exceptions: what the maker of IsEx wants -/
def InitK (K : PySem.W.Frag) (fI : Addr) : Prop := ∃ fd : FuncData, PySem.W.typeIn K (.ref fI) = some (.type "function") ∧ Binds K fd ["self", "what"] [] ∧ ∀ (P : Program) (w : World) (mg : Str → Option Value) (base : Heap) (k : Nat), FnOk P w K mg base C8.CX0 (k + 1) fI fd ["self", "what"] (spInit K)
theorem initK_mk {K : PySem.W.Frag} {qual : Str} {st : Stmt} {f : Addr} {fd : FuncData} {p1 p2 p3 p4 : Pos} (F : Fun K "__init__" qual st f fd) (S : FnScope ["self", "what"] ["self", "what"] (defScope st)) (hv0 : Vis (defScope st) "self") (hv1 : Vis (defScope st) "what")
    (hbd : defBody st = [.Assign [.Attribute (.Name "self" p1) "what" p2] (.Name "what" p3) p4]) (t : PySem.W.typeIn K (.ref f) = some (.type "function")) (hb : Binds K fd ["self", "what"] []) : InitK K f :=
  ⟨fd, t, hb, fun P w mg base k => init_ok F S hv0 hv1 hbd⟩
/-- an exception class as it stands in the written part -/
structure ExK (K : PySem.W.Frag) (C fI : Addr) : Prop where
  oex : OexC K C
  init : PySem.W.findIn K (.ref C) "__init__" = some (some (.ref fI))
  what : PySem.W.findIn K (.ref C) "what" = some none
  xf : XfC K C
theorem exK_mk {K : PySem.W.Frag} {C fI : Addr} {nm q N bs bm sn sub ab col dd k0 k1 k2 k3 k5} (xL : K.lookup C = some (excClassObj nm q C N bs bm true sn sub ab col dd k0 k1 k2 k3 k5 "ValueError.__new__")) (xR : PySem.HandSPX.refsVE bm = true)
    (sa : PySem.W.findIn K (.ref C) "__setattr__" = some (some (.builtin "object.__setattr__"))) (eC : PySem.W.subIn K (.ref C) (.type "BaseException") = some true) (tC : PySem.W.typeIn K (.ref C) = some (.type "type")) (kC : PySem.W.keepIn K (.ref C) = true)
    (iC : PySem.W.findIn K (.ref C) "__init__" = some (some (.ref fI))) (wC : PySem.W.findIn K (.ref C) "what" = some none)
    (ga : PySem.W.findIn K (.ref C) "__getattribute__" = some (some (.builtin "BaseException.__getattribute__"))) (gg : PySem.W.findIn K (.ref C) "__getattr__" = some none) (hdC : PySem.W.hasDictIn K C = true) : ExK K C fI :=
  ⟨⟨⟨nm, q, N, bs, bm, sn, sub, ab, col, dd, k0, k1, k2, k3, k5, xL, xR⟩, sa, eC, tC, kC⟩, iC, wC, ⟨ga, gg, eC, hdC⟩⟩
theorem isEx_mk {K : PySem.W.Frag} {mg : Str → Option Value} {x : Str} {C fI : Addr} (hm : mg x = some (.ref C)) (E : ExK K C fI) (I : InitK K fI) : IsEx K mg x := by
  obtain ⟨fd, t, hb, F⟩ := I
  exact ⟨C, fI, fd, hm, E.oex, E.init, t, E.what, hb, fun P w base k => F P w mg base k⟩
theorem isLet_mk {K : PySem.W.Frag} {mg : Str → Option Value} {x e : Str} {CS g : Addr} {st : Stmt} {fd : FuncData} {j j2 : Nat} {p1 p2 p3 p4 p5 p6 p7 p8 p9 p10 : Pos} (F : Fun K x x st g fd) (hm : mg x = some (.ref g)) (he : mg e = some (.ref CS)) (hb : Binds K fd ["call"] []) (S : FnScope ["call"] ["call"] (defScope st))
    (hv : Vis (defScope st) "call") (hge : (defScope st).names.lookup e = some .globalImplicit)
    (hbd : defBody st = [.Try [.Expr (.Call (.Name "call" p1) [] [] p2) p3] [.ExceptHandler (some (.Name e p4)) none [.Return (some (.Constant (.bool false) j p5)) p6] p7] [] [] p8, .Return (some (.Constant (.bool true) j2 p9)) p10]) : IsLet K mg x e CS :=
  ⟨g, st, fd, j, j2, p1, p2, p3, p4, p5, p6, p7, p8, p9, p10, hm, he, F, hb, S, hv, hge, hbd⟩
/-- classes that catch none but themselves -/
def sepL (K : PySem.W.Frag) (l : List (Str × Addr × Str)) : Bool := l.all fun e => l.all fun e2 => PySem.W.exmOne K (.ref e.2.1) (.ref e2.2.1) == some (decide (e.1 = e2.1))
theorem sep_of {K : PySem.W.Frag} {l : List (Str × Addr × Str)} (h : sepL K l = true) : ∀ e ∈ l, ∀ e2 ∈ l, PySem.W.exmOne K (.ref e.2.1) (.ref e2.2.1) = some (decide (e.1 = e2.1)) := fun e he e2 he2 =>
  eq_of_beq (List.all_eq_true.mp (List.all_eq_true.mp h e he) e2 he2)
theorem ku_of : ∀ {T : List (Addr × Str)}, (T.map (·.1)).Nodup → ∀ {P : Addr} {q : Str}, (P, q) ∈ T → ∀ p ∈ T, p.1 = P → p.2 = q
  | [], _, _, _, h => by cases h
  | t :: T, nd, P, q, h => fun p hp e => by
    have nd' := List.nodup_cons.mp (show (t.1 :: T.map (·.1)).Nodup from nd)
    rcases List.mem_cons.mp h with h | h <;> rcases List.mem_cons.mp hp with hp | hp
    · rw [hp, ← h]
    · exact absurd (List.mem_map.mpr ⟨p, hp, by rw [e, ← h]⟩) nd'.1
    · exact absurd (List.mem_map.mpr ⟨_, h, by rw [← e, hp]⟩) nd'.1
    · exact ku_of nd'.2 h p hp e
end MV

set_option Elab.async false
set_option linter.all false
set_option maxRecDepth 100000
set_option maxHeartbeats 400000
namespace MV
open PySem PySem.Spec PyProof.Rows L2
/-! ## except clauses, with or without a name -/
abbrev Sui := Addr → Value → Option Addr → TS
/-- the ends of a suite whose name lies in the slot -/
def offE (D : Ends) : Option Nat → Ends
  | none => D
  | some i => { nx := fun q G => D.nx (q.set i none) G, rt := D.rt, bk := fun q G => D.bk (q.set i none) G, ct := fun q G => D.ct (q.set i none) G }
def onS (a : Addr) (q : L2.St) : Option Nat → L2.St
  | none => q
  | some i => q.set i (some (.ref a))
/-- what the clauses wish of a raised thing -/
def wClauses (K : PySem.W.Frag) (D : Ends) (out : WX) : List (Value × Option Nat × Sui) → WX
  | [] => out
  | (c, o, ts) :: more => fun cls d q G => ∃ yes, PySem.W.exmOne K cls c = some yes ∧ (yes = true → ∀ a, G a = none → ts a cls d (offE D o) (onS a q o) G) ∧ (yes = false → wClauses K D out more cls d q G)
/-- the name of a clause, and its slot -/
inductive SlotOf (X : Cx) : Option Str → Option Nat → Prop
  | no : SlotOf X none none
  | as {n : Str} {i : Nat} (hi : X.N[i]? = some n) (hk : X.env.kindOf n = some .local) : SlotOf X (some n) (some i)
inductive Clauses (X : Cx) : List ExceptHandler → List (Value × Option Nat × Sui) → Prop
  | no : Clauses X [] []
  | cl {x : Str} {c : Value} {nm : Option Str} {o : Option Nat} {ts : Sui} {b : Stmt} {bs : List Stmt} {p1 p2 : Pos} {more : List ExceptHandler} {l : List (Value × Option Nat × Sui)} (named : Names X x c) (slot : SlotOf X nm o)
      (suite : ∀ (a : Addr) (oe : Obj) (cls : Value) (d : Option Addr) (pn : List (Addr × Obj)), Zc cls d oe → (∃ vs, oe.data = .fields vs) → PSs (X.suite a ((a, oe) :: pn)) (b :: bs) (ts a cls d)) (rest : Clauses X more l) :
      Clauses X (.ExceptHandler (some (.Name x p1)) nm (b :: bs) p2 :: more) ((c, o, ts) :: l)
section
variable {X : Cx} {body : List Stmt} {c0 : ExceptHandler} {cs : List ExceptHandler} {l : List (Value × Option Nat × Sui)} {pos : Pos} {tb : WX → TS} {out : WX}
/-- an exception that has landed at this frame: q, G the slots and the heap without it -/
structure Down (X : Cx) (pins : List (Addr × Obj)) (q : L2.St) (G : Hp) (B : Heap) (sI s1 : Shared) (a : Addr) (cls : Value) (d : Option Addr) (hp : Heap) : Prop where
  inv : Inv X pins q G sI
  base : ∀ b o, sI.heap.get? b = some o → b ∉ frs X.stack → B.get? b = some o
  fly : HandSPX.FlyingZ B (X.env :: X.outer) a (Zc cls d) hp
  up : sI.heap.UpToSlots hp
  new : G a = none
  os : s1.os = sI.os
  bare : AllBare s1.gens
section
variable {pins : List (Addr × Obj)} {q : L2.St} {G : Hp} {B hp : Heap} {sI s1 : Shared} {a : Addr} {cls : Value} {d : Option Addr}
theorem Down.at (z : Down X pins q G B sI s1 a cls d hp) : Inv X pins q G { s1 with heap := hp } := Inv.landed (s' := { s1 with heap := hp }) z.inv z.base z.fly.1 z.up z.os z.bare
theorem Down.own (z : Down X pins q G B sI s1 a cls d hp) {o : Obj} {vs : Array Value} (e : hp.get? a = some o) (f : o.data = .fields vs) : a ∉ frs (X.env :: X.outer) := fun m => by
  obtain ⟨_, o2, e2, no⟩ := z.fly.2.2.1.mem m
  cases e.symm.trans e2
  exact no vs f
theorem Down.inSuite (z : Down X pins q G B sI s1 a cls d hp) (hf : X.env.frame = some X.env.locals) : ∃ oe, Zc cls d oe ∧ (∃ vs, oe.data = .fields vs) ∧ hp.get? a = some oe ∧ Inv (X.suite a ((a, oe) :: (X.pn ++ pins))) [] q G { s1 with heap := hp } := by
  obtain ⟨oe, vs, e, hz, f⟩ := z.fly.there
  have off := z.own e f
  refine ⟨oe, hz, ⟨vs, f⟩, e, z.at.suite e f z.new (fun e2 => off ?_) fun m => off ?_⟩
  · exact List.mem_filterMap.mpr ⟨X.env, .head _, by rw [hf, e2]⟩
  · obtain ⟨v, m1, m2⟩ := List.mem_filterMap.mp m
    exact List.mem_filterMap.mpr ⟨v, .tail _ m1, m2⟩
/-- a suite is run, its name comes and goes -/
theorem suite_ends {D : Ends} {nm : Option Str} {o : Option Nat} {p : Pos} {f : Flow} {s6 : Shared} {oe : Obj} (ok : X.Ok) (hN : X.N.Nodup) (sl : SlotOf X nm o) (h : SP (X.suite a ((a, oe) :: (X.pn ++ pins))) [] (offE D o) f s6) :
    match nm with
    | none => SP X pins D f s6
    | some n => wpAny (model X.prog X.w) X.A (do bindName X.env n .none; unbindBehindTheSuite X.env n p) (fun _ s7 => SP X pins D f s7) X.xe s6 := by
  cases sl with
  | no =>
    cases f with
    | next => obtain ⟨q6, G6, I6, r⟩ := h; exact ⟨q6, G6, I6.unsuite ok, r⟩
    | brk => obtain ⟨q6, G6, I6, r⟩ := h; exact ⟨q6, G6, I6.unsuite ok, r⟩
    | cont => obtain ⟨q6, G6, I6, r⟩ := h; exact ⟨q6, G6, I6.unsuite ok, r⟩
    | ret u => obtain ⟨v6, q6, G6, I6, r⟩ := h; exact ⟨v6, q6, G6, I6.unsuite ok, r⟩
  | as hi hk =>
    cases f with
    | next => obtain ⟨q6, G6, I6, r⟩ := h; exact gone_ok (I6.unsuite ok) hN hi hk fun s7 I7 => ⟨_, G6, I7, r⟩
    | brk => obtain ⟨q6, G6, I6, r⟩ := h; exact gone_ok (I6.unsuite ok) hN hi hk fun s7 I7 => ⟨_, G6, I7, r⟩
    | cont => obtain ⟨q6, G6, I6, r⟩ := h; exact gone_ok (I6.unsuite ok) hN hi hk fun s7 I7 => ⟨_, G6, I7, r⟩
    | ret u => obtain ⟨v6, q6, G6, I6, r, r2⟩ := h; exact gone_ok (I6.unsuite ok) hN hi hk fun s7 I7 => ⟨v6, _, G6, I7, r, r2⟩
theorem clauses_run {D : Ends} (hs : X.stack = X.env :: X.outer) (hf : X.env.frame = some X.env.locals) (hN : X.N.Nodup) (tk : Takes X out) (ok : X.Ok) :
    ∀ {cs : List ExceptHandler} {l : List (Value × Option Nat × Sui)}, Clauses X cs l → ∀ {hp : Heap}, Down X pins q G B sI s1 a cls d hp → wClauses X.K D out l cls d q G →
      wpAny (model X.prog X.w) X.A (handleBy (.ref a) X.env cs) (SP X pins D) X.xe { s1 with heap := hp }
  | _, _, .no, hp, z, w => by
    refine wpAny_handleBy_nil ?_
    obtain ⟨_, _, _, _, vs, T, _, _, e, _, f, e1, _⟩ := id z.fly
    unfold PySem.passOn
    refine wpAny_bind (wpAny_field e f e1 ?_)
    have nT : ¬ ((Value.ref T == Value.none) = true) := by simp
    rw [if_neg nT]
    have again : wpAny (model X.prog X.w) X.A (setFlight (.ref a) X.env.frame) (fun _ s => wpAny (model X.prog X.w) X.A (throw (.ref a) : Sem Flow) (SP X pins D) X.xe s) X.xe { s1 with heap := hp } := by
      rw [hf]
      refine HandSPX.setFlight_upZ z.fly fun h4 held up4 => wpAny_throw (tk _ _ ⟨a, B, sI, pins, q, G, cls, d, rfl, z.inv, z.base, z.up.trans up4, ?_, z.new, z.os, z.bare, w⟩)
      rw [hs]
      exact .inr (.inr held)
    first
      | exact wpAny_bind (wpAny_pure (wpAny_bind again))
      | exact wpAny_bind again
  | _, _, .cl (x := x) (c := c) (nm := nm) (o := o) (p1 := p1) (p2 := p2) named slot suite rest, hp, z, w => by
    obtain ⟨yes, hy, w1, w2⟩ := w
    obtain ⟨oe, hz, _, e, Iz⟩ := z.inSuite hf
    refine wpAny_handleBy_cons (codeAny_handlers_test ?_) (by intro q; cases q)
    have lk : PySem.W.Looks (model X.prog X.w) hp (typeOf (.ref a)) cls := fun _ _ _ _ k g => wpAny_typeOf_ref (k _ _ e) (by rw [hz.1]; exact g)
    have nameIs : ∀ {Q E : Value → Shared → Prop}, Q c { s1 with heap := hp } → wpAny (model X.prog X.w) (X.A.mark (some (.ref a))) (eval (.Name x p1) X.env) Q E { s1 with heap := hp } := fun g => by
      obtain ⟨gl, dbg, m | ⟨m, v, nn⟩⟩ := named
      · exact ld_glob Iz gl m g dbg
      · exact ld_blt Iz gl m v g nn dbg
    refine nameIs ((PySem.W.exm_one (M := model X.prog X.w) z.at.kIn lk hy).here ?_)
    cases yes with
    | false => exact clauses_run hs hf hN tk ok rest z (w2 rfl)
    | true =>
      cases slot with
      | no =>
        refine codeAny_handlers_suite (HandSPX.lands_againZ z.fly fun h4 fly4 up4 => ?_)
        have z4 : Down X pins q G B sI s1 a cls d h4 := ⟨z.inv, z.base, fly4, z.up.trans up4, z.new, z.os, z.bare⟩
        obtain ⟨oe4, hz4, f4, e4, I4⟩ := z4.inSuite hf
        exact wpAny_mono ((suite a oe4 cls d (X.pn ++ pins) hz4 f4).run [] _ _ G _ I4 (w1 rfl a z.new)) (fun f s6 h => suite_ends (p := p2) ok hN .no h) fun _ _ v => v.elim
      | as hi hk =>
        refine codeAny_handlers_suite_as (HandSPX.lands_againZ z.fly fun h4 fly4 up4 => ?_)
        have z4 : Down X pins q G B sI s1 a cls d h4 := ⟨z.inv, z.base, fly4, z.up.trans up4, z.new, z.os, z.bare⟩
        obtain ⟨oe4, hz4, f4, e4, I4⟩ := z4.inSuite hf
        refine store_ok (X := X.suite a ((a, oe4) :: (X.pn ++ pins))) (v := .ref a) I4 hN hi (.inl hk) rfl (fun s5 I5 => ?_) (.inr hk)
        exact wpAny_mono ((suite a oe4 cls d (X.pn ++ pins) hz4 f4).run [] s5 _ G _ I5 (w1 rfl a z.new)) (fun f s6 h => suite_ends (p := p2) ok hN (.as hi hk) h) fun _ _ v => v.elim
end
/-- try, with any clauses by one class each -/
theorem ps_clauses (hs : X.stack = X.env :: X.outer) (hf : X.env.frame = some X.env.locals) (hN : X.N.Nodup) (tk : Takes X out)
    (hb : ∀ (W : WX) (pn : List (Addr × Obj)) (xe : Value → Shared → Prop), Takes (X.tr pn xe) W → PassesOwn (model X.prog X.w) X.A X.env xe → PSs (X.tr pn xe) body (tb W))
    (hc : Clauses X (c0 :: cs) l) : PS X (.Try body (c0 :: cs) [] [] pos) (fun D q G => tb (wClauses X.K D out l) D q G) := by
  refine ⟨fun pins s q G D I h => ?_⟩
  have ok := I.ok
  have frames : X.A.frames = some (X.env :: X.outer) := by rw [ok.frames, hs]
  let then_ (e : Value) (s : Shared) : Prop := wpAny (model X.prog X.w) X.A (noteFrame e X.env) (fun _ s2 => wpAny (model X.prog X.w) X.A (setFlight e none) (fun _ s3 => wpAny (model X.prog X.w) X.A (handleBy e X.env (c0 :: cs)) (SP X pins D) X.xe s3) X.xe s2) X.xe s
  have tk2 : Takes (X.tr (X.pn ++ pins) then_) (wClauses X.K D out l) := by
    rintro _ s1 ⟨a, B, sI, pins2, q1, G1, cls, d, rfl, I1, base, up, sky, new, os, bare, w⟩
    rw [show (X.tr (X.pn ++ pins) then_).stack = X.env :: X.outer from hs] at sky
    show wpAny (model X.prog X.w) X.A (noteFrame (.ref a) X.env) _ _ _
    exact Sky.land Zc.steady frames hf sky fun h3 fly up3 => clauses_run hs hf hN tk ok hc ⟨I1.ofTry ok, base, fly, up.trans up3, new, os, bare⟩ w
  refine wpAny_Try_except (wpAny_mono ((hb _ _ then_ tk2 PassesOwn.looking).run [] s q G D (I.toTry _) h) (fun f s1 r => ?_) fun e s1 r => r)
  cases f with
  | next => obtain ⟨q1, G1, I1, r⟩ := r; exact wpAny_execs_nil ⟨q1, G1, I1.ofTry ok, r⟩
  | brk => obtain ⟨q1, G1, I1, r⟩ := r; exact ⟨q1, G1, I1.ofTry ok, r⟩
  | cont => obtain ⟨q1, G1, I1, r⟩ := r; exact ⟨q1, G1, I1.ofTry ok, r⟩
  | ret u => obtain ⟨v, q1, G1, I1, r⟩ := r; exact ⟨v, q1, G1, I1.ofTry ok, r⟩
end
end MV

set_option Elab.async false
set_option linter.all false
set_option maxRecDepth 100000
set_option maxHeartbeats 400000
namespace MV
open PySem PySem.Spec PyProof.Rows L2 LamX
variable [Tbs]
/-! ## defs that tell what a call gives, or its refusal -/
/-- a suite's wish: (nm, error.what) -/
def sTell (C : Addr) (nm : Str) (i : Nat) (fin : Ends → V → L2.St → Hp → Prop) : Sui := fun a cls d D q G =>
  cls = .ref C ∧ q[i]? = some (some (.ref a)) ∧ ∃ dx v, d = some dx ∧ G dx = some (.xd [("what", v)]) ∧ ∀ T, G T = none → fin D (.ref T) q (upd G T (.tup [.str nm, v]))
section
variable {X : Cx} {a C : Addr} {oe : Obj} {cls : Value} {d : Option Addr} {pn : List (Addr × Obj)} {i : Nat} {err nm : Str} {j k : Nat} {p2 p3 p4 p5 p6 : Pos}
/-- (nm, error.what) as an expression -/
theorem e_tell (T : XfC X.K C) (hw : PySem.W.findIn X.K (.ref C) "what" = some none) (hz : Zc cls d oe) (hf : ∃ vs, oe.data = .fields vs) (hi : X.N[i]? = some err) (hv : Vis X.env.scope err) (h1 : (err == ("__debug__" : Str)) = false) (h2 : (err == ("__classdict__" : Str)) = false) :
    PE (X.suite a ((a, oe) :: pn)) (.Tuple [.Constant (.str nm) j p2, .Attribute (.Name err p3) "what" p4] k p5) fun q G Q =>
      cls = .ref C ∧ q[i]? = some (some (.ref a)) ∧ ∃ dx v, d = some dx ∧ G dx = some (.xd [("what", v)]) ∧ ∀ T, G T = none → Q (.ref T) (upd G T (.tup [.str nm, v])) := by
  have hv2 : PE (X.suite a ((a, oe) :: pn)) (.Name err p3) (tVar i) := pe_var (X := X.suite a ((a, oe) :: pn)) hi hv h1 h2
  refine PE.by (pe_tup (pa_cons pe_str (pa_cons (pe_xf T hw hz hf hv2) pa_nil))) fun q G Q ⟨e1, e2, dx, v, e3, e4, r⟩ => ?_
  exact ⟨.ref a, e2, rfl, e1, dx, _, v, e3, e4, rfl, line_le (by show 2 ≤ lineN; decide), r⟩
theorem s_ret (T : XfC X.K C) (hw : PySem.W.findIn X.K (.ref C) "what" = some none) (hz : Zc cls d oe) (hf : ∃ vs, oe.data = .fields vs) (hi : X.N[i]? = some err) (hv : Vis X.env.scope err) (h1 : (err == ("__debug__" : Str)) = false) (h2 : (err == ("__classdict__" : Str)) = false) :
    PSs (X.suite a ((a, oe) :: pn)) [.Return (some (.Tuple [.Constant (.str nm) j p2, .Attribute (.Name err p3) "what" p4] k p5)) p6] (sTell C nm i (fun D v _ G => D.rt v G) a cls d) :=
  pss_one (PS.by (ps_ret (e_tell T hw hz hf hi hv h1 h2)) fun D q G h => h)
end
/-- the clauses `except x as err: return (nm, err.what)` -/
inductive HdR (K : PySem.W.Frag) (mg : Str → Option Value) (sg : Scope) (err : Str) : List ExceptHandler → List (Str × Addr × Str) → Prop
  | no : HdR K mg sg err [] []
  | cl {x nm : Str} {C : Addr} {j k : Nat} {p1 p2 p3 p4 p5 p6 p7 : Pos} {hs : List ExceptHandler} {l : List (Str × Addr × Str)} (T : XfC K C) (hw : PySem.W.findIn K (.ref C) "what" = some none) (hm : mg x = some (.ref C)) (hg : sg.names.lookup x = some .globalImplicit) (hd : (x == ("__debug__" : Str)) = false) (r : HdR K mg sg err hs l) :
      HdR K mg sg err (.ExceptHandler (some (.Name x p1)) (some err) [.Return (some (.Tuple [.Constant (.str nm) j p2, .Attribute (.Name err p3) "what" p4] k p5)) p6] p7 :: hs) ((x, C, nm) :: l)
theorem HdR.clauses {X : Cx} {err : Str} {i : Nat} (hi : X.N[i]? = some err) (hk : X.env.kindOf err = some .local) (h1 : (err == ("__debug__" : Str)) = false) (h2 : (err == ("__classdict__" : Str)) = false) :
    ∀ {hs : List ExceptHandler} {l : List (Str × Addr × Str)}, HdR X.K X.mg X.env.scope err hs l → Clauses X hs (l.map fun e => (.ref e.2.1, some i, sTell e.2.1 e.2.2 i (fun D v _ G => D.rt v G)))
  | _, _, .no => .no
  | _, _, .cl T hw hm hg hd r => .cl ⟨hg, hd, .inl hm⟩ (.as hi hk) (fun a oe cls d pn hz hf => s_ret T hw hz hf hi (.inl hk) h1 h2) (r.clauses hi hk h1 h2)
/-- what the clauses make of a refusal -/
def wHear (K : PySem.W.Frag) (Q : VK) : List (Str × Addr × Str) → XK
  | [] => fun _ _ _ => False
  | (_, C, nm) :: r => fun cls d G => ∃ yes, PySem.W.exmOne K cls (.ref C) = some yes ∧ (yes = true → cls = .ref C ∧ ∃ dx v, d = some dx ∧ G dx = some (.xd [("what", v)]) ∧ ∀ T, G T = none → Q (.ref T) (upd G T (.tup [.str nm, v]))) ∧ (yes = false → wHear K Q r cls d G)
def THear (K : PySem.W.Frag) (tag : Str) (l : List (Str × Addr × Str)) : (XK → Hp → VK → Prop) → Hp → VK → Prop := fun tl H Q => tl (wHear K Q l) H fun v G => [V.str tag, v].length ≤ sizeLine ∧ ∀ T, G T = none → Q (.ref T) (upd G T (.tup [.str tag, v]))
theorem wHear_clauses {K : PySem.W.Frag} {Q : VK} {D : Ends} {i : Nat} {f : Addr} {q : L2.St} (hq : i < q.length) (hD : ∀ v G, Q v G → D.rt v G) : ∀ {l : List (Str × Addr × Str)} {cls : Value} {d : Option Addr} {G : Hp}, wHear K Q l cls d G →
    wClauses K D (fun _ _ _ _ => False) (l.map fun e => (.ref e.2.1, some i, sTell e.2.1 e.2.2 i (fun D v _ G => D.rt v G))) cls d q G
  | [], _, _, _, h => h
  | (_, C, nm) :: l, cls, d, G, ⟨yes, h1, h2, h3⟩ => ⟨yes, h1, fun y a _ => by
      obtain ⟨e1, dx, v, e2, e3, r⟩ := h2 y
      exact ⟨e1, List.getElem?_set_self hq, dx, v, e2, e3, fun T hT => hD _ _ (r T hT)⟩, fun y => wHear_clauses (f := f) hq hD (h3 y)⟩
theorem takes_len {X : Cx} {W : WX} (t : Takes X W) : Takes X (fun c d q G => q.length = X.N.length → W c d q G) := fun u s' ⟨a, B, sI, pins, q, G, cls, d, e, I, nb, up, sky, na, os, ag, w⟩ =>
  t u s' ⟨a, B, sI, pins, q, G, cls, d, e, I, nb, up, sky, na, os, ag, w I.len⟩
theorem hear_gives {X : Cx} {Ng : List Str} {x a q err tag : Str} {sg : Scope} {g : Addr} {cdg : Value} {j k i : Nat} {l : List (Str × Addr × Str)} {h0 : ExceptHandler} {hs : List ExceptHandler} {p1 p2 p3 p4 p5 p6 : Pos} (hN : Ng.Nodup) (hi : Ng[i]? = some err) (hk : sg.names.lookup err = some .local) (h1 : (err == ("__debug__" : Str)) = false) (h2 : (err == ("__classdict__" : Str)) = false)
    (hh : HdR X.K X.mg sg err (h0 :: hs) l) (hs0 : ∀ f : Addr, (L2.start Ng [V.ref f])[0]? = some (some (V.ref f))) :
    GivesTo X Ng x sg g cdg [.Try [.Return (some (.Tuple [.Constant (.str tag) j p1, .Call (.Name a p2) [] [] p3] k p4)) p5] (h0 :: hs) [] [] p6] a q (THear X.K tag l) := by
  intro f c' s H Q tl act hc h
  let Z : Cx := (cxOf C8.CX0 X.prog X.w X.K X.mg X.base Ng x sg g cdg X.A X.stack s H C8.E0).nox
  have hlen : i < Ng.length := (List.getElem?_eq_some_iff.mp hi).1
  let rd0 : WX → TS := fun W D q' G => ∃ Ech : XK, (∀ cls d σ' H', Ech cls d H' → σ'.length = Ng.length → W cls d σ' H') ∧ q'[0]? = some (some (.ref f)) ∧ G c' = some (CodeO c' q) ∧ tl Ech G fun v G2 => [V.str tag, v].length ≤ sizeLine ∧ ∀ T, G2 T = none → D.rt (.ref T) (upd G2 T (.tup [.str tag, v]))
  have body : ∀ (W : WX) (pn : List (Addr × Obj)) (xe : Value → Shared → Prop), Takes (Z.tr pn xe) W → PassesOwn (model Z.prog Z.w) Z.A Z.env xe → PSs (Z.tr pn xe) [.Return (some (.Tuple [.Constant (.str tag) j p1, .Call (.Name a p2) [] [] p3] k p4)) p5] (rd0 W) := fun W pn xe tk _ => by
    refine ⟨fun pins s' σ H' D I ⟨Ech, hW, e1, e2, e3⟩ => ?_⟩
    have tk' : Takes (Z.tr pn xe) (fun cls d σ' H' => σ'.length = Ng.length → W cls d σ' H') := takes_len tk
    have ex := pe_tup (x1 := k) (pos := p4) (pa_cons (pe_str (X := Z.tr pn xe) (x := tag) (j := j) (pos := p1)) (pa_cons (act _ pn xe Ech p2 p3 tk' hW) pa_nil))
    refine (pss_one (ps_ret (pos := p5) ex)).run pins s' σ H' D I ⟨e1, e2, ?_⟩
    exact e3
  refine ⟨_, pss_one (ps_clauses (X := Z) (tb := rd0) rfl rfl hN LamX.takes0 body (HdR.clauses (X := Z) hi hk h1 h2 hh)), ?_⟩
  refine ⟨wHear X.K Q l, fun cls d σ' H' w hl => wHear_clauses (f := f) (by rw [hl]; exact hlen) (fun v G z => z) w, hs0 f, hc, h⟩
end MV

set_option Elab.async false
set_option linter.all false
set_option maxRecDepth 100000
set_option maxHeartbeats 400000
namespace MV
open PySem PySem.Spec PyProof.Rows L2 LamX
variable [Tbs]
/-- the label of a class -/
def hearX : List (Str × Str) → Str → Option Str
  | [], _ => none
  | (x, nm) :: r, y => if x = y then some nm else hearX r y
/-- heard(lambda: e): tag, what it is told of; ls, the classes with their labels -/
def fHear (tag : Str) (ls : List (Str × Str)) (fe : EF) : EF := fun env st => match fe env st with
  | .ok d s => mkTup [.p (.str tag), d] s
  | .exc y (.p w) s => match hearX ls y with
    | some nm => .ok (.p (.tuple [.str nm, w])) s
    | none => .bad
  | _ => .bad
/-- the def that tells of what it got -/
structure IsHear (K : PySem.W.Frag) (mg : Str → Option Value) (x tag : Str) (ls : List (Str × Str)) : Prop where
  ex : ∃ (g : Addr) (st : Stmt) (fd : FuncData) (err : Str) (i j k : Nat) (Ng : List Str) (l : List (Str × Addr × Str)) (h0 : ExceptHandler) (hs : List ExceptHandler) (p1 p2 p3 p4 p5 p6 : Pos), mg x = some (.ref g) ∧ Fun K x x st g fd ∧ Binds K fd ["call"] [] ∧ FnScope Ng ["call"] (defScope st) ∧
    Vis (defScope st) "call" ∧ Ng[0]? = some ("call" : Str) ∧ Ng[i]? = some err ∧ (defScope st).names.lookup err = some .local ∧ (err == ("__debug__" : Str)) = false ∧ (err == ("__classdict__" : Str)) = false ∧ HdR K mg (defScope st) err (h0 :: hs) l ∧ l.map (fun e => (e.1, e.2.2)) = ls ∧
    (∀ e ∈ l, ∀ e2 ∈ l, PySem.W.exmOne K (.ref e.2.1) (.ref e2.2.1) = some (decide (e.1 = e2.1))) ∧
    defBody st = [.Try [.Return (some (.Tuple [.Constant (.str tag) j p1, .Call (.Name "call" p2) [] [] p3] k p4)) p5] (h0 :: hs) [] [] p6]
omit [Tbs] in
theorem HdR.mem {K : PySem.W.Frag} {mg : Str → Option Value} {sg : Scope} {err : Str} : ∀ {hs : List ExceptHandler} {l : List (Str × Addr × Str)}, HdR K mg sg err hs l → ∀ e ∈ l, mg e.1 = some (.ref e.2.1)
  | _, _, .no, _, h => by cases h
  | _, _, .cl _ _ hm _ _ r, e, h => by
    rcases List.mem_cons.mp h with rfl | h
    · exact hm
    · exact r.mem e h
omit [Tbs] in
theorem hearX_mem : ∀ {l : List (Str × Addr × Str)} {y nm : Str}, hearX (l.map fun e => (e.1, e.2.2)) y = some nm → ∃ C, (y, C, nm) ∈ l
  | [], _, _, h => by cases h
  | (x, C, n) :: l, y, nm, h => by
    show ∃ C', (y, C', nm) ∈ (x, C, n) :: l
    have h : (if x = y then some n else hearX (l.map fun e => (e.1, e.2.2)) y) = some nm := h
    by_cases c : x = y
    · rw [if_pos c] at h
      cases h
      exact ⟨C, by rw [c]; exact .head _⟩
    · rw [if_neg c] at h
      obtain ⟨C', m⟩ := hearX_mem h
      exact ⟨C', .tail _ m⟩
omit [Tbs] in
theorem wHear_of {K : PySem.W.Frag} {Q : VK} {y nm : Str} {C : Addr} {dx : Addr} {v : V} {G : Hp} (hx : G dx = some (.xd [("what", v)])) (hq : ∀ T, G T = none → Q (.ref T) (upd G T (.tup [.str nm, v]))) :
    ∀ {l : List (Str × Addr × Str)}, (∀ e ∈ l, PySem.W.exmOne K (.ref C) (.ref e.2.1) = some (decide (y = e.1))) → (∀ e ∈ l, e.1 = y → e.2.1 = C) → hearX (l.map fun e => (e.1, e.2.2)) y = some nm → wHear K Q l (.ref C) (some dx) G
  | [], _, _, h => by cases h
  | (x, C', n) :: l, h1, h2, h => by
    have h : (if x = y then some n else hearX (l.map fun e => (e.1, e.2.2)) y) = some nm := h
    refine ⟨_, h1 _ (.head _), fun yes => ?_, fun no => ?_⟩
    · have e : y = x := of_decide_eq_true yes
      rw [if_pos e.symm] at h
      cases h
      have ec : C' = C := h2 _ (.head _) e.symm
      exact ⟨by rw [ec], dx, v, rfl, hx, hq⟩
    · have e : ¬ y = x := of_decide_eq_false no
      rw [if_neg (fun z => e z.symm)] at h
      exact wHear_of hx hq (fun e m => h1 e (.tail _ m)) (fun e m => h2 e (.tail _ m)) h
theorem e_hear {X : Cx} {W : WX} {x tag : Str} {k : Nat} {nb : Bool} {ls : List (Str × Str)} {params : Arguments} {body : Expr} {scope : Scope} {fe : EF} {p lpos pos : Pos} (g : GX X (k + 2) nb) (hl : IsHear X.K X.mg x tag ls) (hk : LamK X) (L : LamS X.env.scope scope)
    (hb : ∀ (A : Around) (outer : List Env) (s : Shared) (H : Hp) (E : XK) (f c' : Addr), GX (lamCx X A outer s H E scope f c') k false → Takes (lamCx X A outer s H E scope f c') (fun cls d _ H' => E cls d H') → PE (lamCx X A outer s H E scope f c') body (rdE (lamCx X A outer s H E scope f c') (fun cls d _ H' => E cls d H') fe))
    (hdef : defaultsOf params X.env = ([], []) := by rfl) (hbind : ∀ (q : Str) (cl : List (Str × Addr)) (pm cv ctv : Value), bindArgs (PySem.W.kla_fn "<lambda>" q params body scope cl pm cv ctv) ⟨[], []⟩ = pure [] := by intros; rfl)
    (hg : Gl X x := by rfl) (hdb : (x == ("__debug__" : Str)) = false := by decide) : PE X (.Call (.Name x p) [.Lambda params body scope lpos] [] pos) (rdE X W (fHear tag ls fe)) := by
  obtain ⟨f0, st, fd, err, i, j, jk, Ng, l, h0, hs, p1, p2, p3, p4, p5, p6, hm, F, hbn, S, hv, hN0, hi, hke, hd1, hd2, hh, hls, sep, hbd⟩ := hl.ex
  obtain ⟨oc, od, kV, doc, pm, an, cdv, ct, osl, rfl, lk, hcd⟩ := F.ex
  obtain ⟨c, P, hcode, TB, hT, hu⟩ := hk.ex
  have s0 : ∀ f : Addr, (L2.start Ng [V.ref f])[0]? = some (some (V.ref f)) := fun f => rfl
  have G : GivesTo X Ng x (defScope st) f0 cdv (defBody st) "call" (X.env.qual ++ "<lambda>") (THear X.K tag l) := by
    rw [hbd]
    exact hear_gives S.nd hi hke hd1 hd2 hh s0
  refine PE.by (pe_lamcall (T := Tbs.T) (Ng := Ng) (t := fun E => rdE X (fun cls d _ H' => E cls d H') fe) hg hm F.kp lk hcd hbn S hN0 hv G TB hcode hT hu g.hr L hdef hbind (fun A outer s H E f c' hr => ?_) hdb) fun σ H Q ⟨c0, env, st0, er, w, hp⟩ => ?_
  · exact hb A outer s H E f c' ⟨hr, (fun z => by cases z), rfl, g.nd, passes_of (E₁ := fun e' s'' => L2.CX X.prog X.w outer H s E e' s'') rfl⟩ (takes_of (E₁ := fun e' s'' => L2.CX X.prog X.w outer H s E e' s'') rfl rfl rfl rfl)
  · refine ⟨w.tabs, fun H1 xn t1 => ?_⟩
    obtain ⟨gr, w1⟩ := w.exn xn t1
    refine ⟨c0, env, st0, er.up gr, w1, ?_⟩
    have l2 : 2 ≤ sizeLine := line_le (by decide)
    unfold fHear at hp
    cases hf : fe env st0 with
    | ok d s =>
      rw [hf] at hp
      simp only [mkTup] at hp
      intro c' H' v g' w' rv
      cases d with
      | r _ => exact (show False from hp).elim
      | sl _ => exact (show False from hp).elim
      | p d =>
        simp only [allP_cons, allP_nil, Option.map_some] at hp
        obtain ⟨_, hp⟩ := Post.when hp
        exact ⟨l2, new_tup w' (ps := [.str tag, d]) (vs := [.str tag, v]) ⟨_, _, rfl, rfl, _, _, rfl, rv, rfl⟩ (hp.up (gr.trans g'))⟩
    | exc y d s =>
      rw [hf] at hp
      cases d with
      | r _ => exact (show False from hp).elim
      | sl _ => exact (show False from hp).elim
      | p w =>
        simp only at hp
        cases hx : hearX ls y with
        | none => rw [hx] at hp; exact (show False from hp).elim
        | some nm =>
          rw [hx] at hp
          intro c' H' C dx v g' w' hm' hxd rv
          rw [← hls] at hx
          obtain ⟨C', mem⟩ := hearX_mem hx
          have eC : C' = C := by
            have := (hh.mem _ mem).symm.trans hm'
            cases this
            rfl
          refine wHear_of hxd (fun T hT => ?_) (fun e m => ?_) (fun e m e1 => ?_) hx
          · exact new_tup w' (ps := [.str nm, w]) (vs := [.str nm, v]) ⟨_, _, rfl, rfl, _, _, rfl, rv, rfl⟩ (hp.up (gr.trans g')) T hT
          · have := sep _ mem e m
            rw [eC] at this
            exact this
          · have := (hh.mem _ m).symm.trans ((congrArg X.mg e1).trans hm')
            cases this
            rfl
    | bad => rw [hf] at hp; exact hp.elim
end MV

set_option Elab.async false
set_option linter.all false
set_option maxRecDepth 100000
set_option maxHeartbeats 400000
namespace MV
open PySem PySem.Spec PyProof.Rows L2
variable [Tbs]
/-! ## < of data that are alike -/
def notNon : PyData → Bool
  | .none => false
  | _ => true
def ltX (a b : D) (st : Sto) : R D := match dat st a, dat st b with
  | some d, some e => if (PySem.W.alike d e = true ∧ notNon d = true) ∧ d.depth ≤ 60 then .ok (.p (.bool (PySem.W.dataLt d e))) st else .bad
  | _, _ => .bad
theorem s_ltX {X : Cx} (hu : X.A.units + 66 < cLine) : OpS X (compareOp .Lt) ltX := by
  intro pins s σ H x y v u Q I rx ry ⟨c, st, a, b, E, w, ra, rb, h⟩
  unfold ltX at h
  cases h1 : dat st a with
  | none => rw [h1] at h; exact h.elim
  | some d =>
    cases h2 : dat st b with
    | none => rw [h1, h2] at h; exact h.elim
    | some e =>
      rw [h1, h2] at h
      obtain ⟨⟨⟨al, nn⟩, dp⟩, h⟩ := Post.when h
      obtain ⟨as, r1⟩ := Dp.reads I d x v (dat_rep w ra h1) rx
      obtain ⟨bs, r2⟩ := Dp.reads I e y u (dat_rep w rb h2) ry
      have hd : d ≠ .none := fun z => by rw [z] at nn; cases nn
      have hm : X.A.units + min d.depth e.depth < cLine := by omega
      exact PySem.W.rcLt_alike d e X.A s v u as bs r1 r2 al hd hm X.prog X.w _ _ ⟨.bl _, H, I, rfl, h c H _ .refl w rfl⟩
end MV

set_option Elab.async false
set_option linter.all false
set_option maxRecDepth 100000
set_option maxHeartbeats 400000
namespace MV
open PySem PySem.Spec PyProof.Rows L2 PySem.W PySem.Calls
/-! ## isinstance of a caught error -/
/-- what a class of errors must say, that isinstance asks its instances -/
structure IsE (K : Frag) (D : Addr) : Prop where
  xf : XfC K D
  cl : findIn K (.ref D) "__class__" = some (some (.builtin "object.__class__"))
  sp : specialIn K (.builtin "object.__class__") "__get__" = some (some (.builtin "getset_descriptor.__get__"))
  tk : takesIn K (.builtin "object.__class__") = some true
  mr : mroIn K D (.type "object") = some true
section
variable {prog : Program} {w : World} {A : Around} {E : Value → Shared → Prop} {K : Frag} {x D : Addr} {ox od : Obj}
theorem errCls {s : Shared} {Q : Option Value → Shared → Prop} (Z : IsE K D) (X : K.In s.heap) (I : InstAt s.heap x ox D (some od)) (q : Q (some (.ref D)) { s with toks := s.toks + 1 }) : wpAny (model prog w) A (getAttr? (.ref x) "__class__") Q E s := by
  obtain ⟨hp, gs, dn, tk, os⟩ := s
  have known : (clsIn K D).isSome = true := by
    obtain ⟨cd, e, _⟩ := any_some Z.xf.hdC
    rw [e]; rfl
  have ty := I.type (M := model prog w)
  have found := looks_find (M := model prog w) X I (findObj_data (od := od) known Z.cl Z.sp Z.tk)
  have getter := looks_findIn (M := model prog w) X Z.xf.ga
  have other := looks_findIn (M := model prog w) X Z.xf.gg
  have isEx : Looks (model prog w) hp (isInstance (.ref x) (.type "BaseException")) true := ty.andThen (looks_subIn X Z.xf.exC)
  have ne : (Value.builtin "BaseException.__getattribute__" == Value.builtin "object.__getattribute__") = false := by decide +kernel
  have plain : (onTheHeap (Value.ref D) && Value.builtin "BaseException.__getattribute__" == Value.builtin "object.__getattribute__") = false := by rw [ne]; rfl
  have off : (false && onTheHeap (Value.builtin "BaseException.__getattribute__")) = false := rfl
  unfold getAttr? getAttrBy? getAttrBy
  refine wpAny_bind (wpAny_mkText (wpAny_bind (wpAny_attempt (wpAny_holding (wpAny_bind (ty.at (wpAny_bind (getter.at ?_))))))))
  show wpAny _ _ (if (onTheHeap (Value.ref D) && Value.builtin "BaseException.__getattribute__" == Value.builtin "object.__getattribute__") = true then _ else _) _ _ _
  rw [plain, if_neg Bool.false_ne_true]
  unfold getAttrByItsOwn hookBefore
  refine wpAny_bind ?_
  have heap : onTheHeap (Value.ref D) = true := rfl
  rw [if_pos heap]
  refine other.at (wpAny_bind (wpAny_attempt (wpAny_holding ?_)))
  unfold callGetattribute
  rw [off, if_neg Bool.false_ne_true]
  unfold boundAndCalled
  rw [F.excAttr_ValueError.ga.bind (.ref x)]
  refine wpAny_bind (wpAny_pure ?_)
  show wpAny _ _ (call (.builtin "BaseException.__getattribute__") [.ref x, .str "__class__" tk]) _ _ _
  refine wpAny_call (codeAny_call_builtin F.excAttr_ValueError.ga.plain F.entry_bexc_ga ?_)
  have o1 := F.args_bexc_ga (.ref x) (.str "__class__" tk)
  refine @check_slot (model prog w) _ _ ⟨hp, gs, dn, tk + 1, os⟩ "BaseException.__getattribute__" "BaseException" "__getattribute__" (.ref x) [.str "__class__" tk] [] _ (by decide +kernel) (by decide +kernel) isEx o1 ?_
  unfold Builtin.«object.__getattribute__»
  refine wpAny_bind (wpAny_of_eq (a := ((Value.ref x : Value), [Value.str "__class__" tk])) (by first | rfl | (simp only [slotArgs]; rfl)) ?_)
  refine wpAny_bind (wpAny_pure (wpAny_bind (ty.at (wpAny_bind (found.at ?_)))))
  show wpAny _ _ (holding [Value.builtin "object.__class__"] (call (.builtin "getset_descriptor.__get__") [.builtin "object.__class__", .ref x, .ref D]) >>= ret) _ _ _
  refine wpAny_bind (wpAny_holding (wpAny_call (class_get (s := ⟨hp, gs, dn, tk + 1, os⟩) (ox := ox) (od := some od) X I Z.mr ?_)))
  refine wpAny_pure ?_
  show wpAny _ _ (handedOut (.ref D)) _ _ _
  rw [handedOut_of (v := .ref D) rfl]
  first
    | exact wpAny_pure (wpAny_pure q)
    | exact wpAny_pure q
    | exact wpAny_pure (wpAny_bind (wpAny_pure (wpAny_pure q)))
theorem errKit (Z : IsE K D) : KitX K (.ref x) (.ref D) (fun h => InstAt h x ox D (some od)) := by
  obtain ⟨cd, hcd, _⟩ := any_some Z.xf.hdC
  have look : ∃ c d sl, K.lookup D = some ⟨c, d, .cls cd, sl⟩ := by
    unfold clsIn at hcd
    split at hcd
    · rename_i ho
      cases hcd
      exact ⟨_, _, _, ho⟩
    · cases hcd
  obtain ⟨c0, d0, sl0, ho⟩ := look
  refine ⟨fun _ _ _ I => I.type, fun _ _ X _ => ?_, fun h tp dd its n sl X htp => ?_, fun X I q => errCls Z X I q⟩
  · intro _ _ _ s k q
    unfold isType loadHead
    exact wpAny_bind (wpAny_loadPart (k _ _ (X _ _ ho)) (wpAny_pure q))
  · refine Bool.eq_false_iff.mpr fun e => ?_
    have e : D = tp := Value.ref.inj (beq_iff_eq.mp e)
    subst e
    cases (X _ _ ho).symm.trans htp
end
section
variable {X : Cx} {a D dx : Addr} {oe : Obj} {pn : List (Addr × Obj)}
/-- isinstance(e, c), e the error that the suite holds -/
def rIsX (K : Frag) (D a dx : Addr) : List V → Hp → VK → Prop := fun xs H Q => ∃ (c : V) (cv : Value) (b : Bool) (fs : List (Str × V)), xs = [.ref a, c] ∧ (∀ u, RelV c u → u = cv) ∧ H dx = some (.xd fs) ∧ kitOne K (.ref D) cv = some b ∧ Q (.bl b) H
theorem call_isX (Z : IsE X.K D) (hz : Zc (.ref D) (some dx) oe) (hf : ∃ vs, oe.data = .fields vs) : CallR (X.suite a ((a, oe) :: pn)) (.builtin "isinstance") (rIsX X.K D a dx) := by
  rintro pins s σ H xs us Q I r ⟨c, cv, b, fs, rfl, hcv, hd, e, q⟩
  obtain ⟨u1, u2, rfl, r1, r2⟩ := vals2 r
  cases r1
  cases hcv _ r2
  obtain ⟨hget, _⟩ := I.pin (a, oe) (List.mem_append_left _ (.head _))
  obtain ⟨vs, hv⟩ := hf
  have hx : ObjOk X.prog X.w H s.heap dx (.xd fs) := I.hok dx _ hd
  obtain ⟨mA, hns, _⟩ := hx
  obtain ⟨od, ho, _⟩ := lookIn_ns hns
  have J : InstAt s.heap a oe D (some od) := ⟨hget, hz.1, by unfold notCls; rw [hv] <;> rfl, by rw [hz.2]; exact ho⟩
  exact kia_one (errKit Z) I.kIn J e (fun z => nomatch z) fun tk => ⟨.bl b, H, I.kept (t' := tk) fun _ _ z => z, rfl, q⟩
end
end MV

set_option Elab.async false
set_option linter.all false
set_option maxRecDepth 100000
set_option maxHeartbeats 400000
namespace MV
open PySem PySem.Spec PyProof.Rows L2 LamX
variable [Tbs]
/-! ## defs that keep what they were told, and return it -/
def tailB : Bool → List V
  | true => [.bl true]
  | false => []
def sFnd (b : Bool) (C : Addr) (nm : Str) (i j : Nat) : Sui := fun a cls d D q G =>
  cls = .ref C ∧ q[i]? = some (some (.ref a)) ∧ ∃ dx v, d = some dx ∧ G dx = some (.xd [("what", v)]) ∧ ∀ T, G T = none → D.nx (q.set j (some (.ref T))) (upd G T (.tup (.str nm :: v :: tailB b)))
def sAll (b : Bool) (nm : Str) (k : Int) (j : Nat) : Sui := fun _ _ _ D q G => ∀ T, G T = none → D.nx (q.set j (some (.ref T))) (upd G T (.tup (.str nm :: .int k :: tailB b)))
section
variable {X : Cx} {a C CS : Addr} {oe : Obj} {cls : Value} {d : Option Addr} {pn : List (Addr × Obj)} {i j : Nat} {err fnd nm : Str} {k0 k1 : Nat} {p1 p2 p3 p4 p5 p6 p7 p8 p9 pa pb pc pd pe pf : Pos} {j1 j2 j3 : Nat}
theorem s_fnd0 (T : XfC X.K C) (hw : PySem.W.findIn X.K (.ref C) "what" = some none) (hz : Zc cls d oe) (hf : ∃ vs, oe.data = .fields vs) (hN : X.N.Nodup) (hi : X.N[i]? = some err) (hv : Vis X.env.scope err) (h1 : (err == ("__debug__" : Str)) = false) (h2 : (err == ("__classdict__" : Str)) = false) (hj : X.N[j]? = some fnd) (hk : X.env.scope.names.lookup fnd = some .local) :
    PSs (X.suite a ((a, oe) :: pn)) [.Assign [.Name fnd p1] (.Tuple [.Constant (.str nm) j1 p2, .Attribute (.Name err p3) "what" p4] k0 p5) p6] (sFnd false C nm i j a cls d) :=
  pss_one (PS.by (ps_set (X := X.suite a ((a, oe) :: pn)) hN hj (.inl hk) (e_tell T hw hz hf hi hv h1 h2) rfl (.inr hk)) fun D q G h => h)
/-- isinstance(err, Refused) and isinstance(err, ValueError) -/
theorem s_fnd1 (T : IsE X.K C) (hw : PySem.W.findIn X.K (.ref C) "what" = some none) (hz : Zc cls d oe) (hf : ∃ vs, oe.data = .fields vs) (hN : X.N.Nodup) (hi : X.N[i]? = some err) (hv : Vis X.env.scope err) (h1 : (err == ("__debug__" : Str)) = false) (h2 : (err == ("__classdict__" : Str)) = false) (hj : X.N[j]? = some fnd) (hk : X.env.scope.names.lookup fnd = some .local)
    (gI : Gl X "isinstance") (mI : X.mg "isinstance" = none) (gR : Gl X "Refused") (mR : X.mg "Refused" = some (.ref CS)) (gV : Gl X "ValueError") (mV : X.mg "ValueError" = none) (kR : PySem.W.kitOne X.K (.ref C) (.ref CS) = some true) (kV : PySem.W.kitOne X.K (.ref C) (.type "ValueError") = some true) :
    PSs (X.suite a ((a, oe) :: pn)) [.Assign [.Name fnd p1] (.Tuple [.Constant (.str nm) j1 p2, .Attribute (.Name err p3) "what" p4, .BoolOp .And [.Call (.Name "isinstance" p7) [.Name err p8, .Name "Refused" p9] [] pa, .Call (.Name "isinstance" pb) [.Name err pc, .Name "ValueError" pd] [] pe] pf] k0 p5) p6] (sFnd true C nm i j a cls d) := by
  refine pss_one ⟨fun pins s q G D I h => ?_⟩
  obtain ⟨rfl, hq, dx, v, rfl, hx, r⟩ := h
  have hvar : ∀ p, PE (X.suite a ((a, oe) :: pn)) (.Name err p) (tVar i) := fun p => pe_var (X := X.suite a ((a, oe) :: pn)) hi hv h1 h2
  have attr := pe_xf (pos := p4) T.xf hw hz hf (hvar p3)
  have nR : PE (X.suite a ((a, oe) :: pn)) (.Name "Refused" p9) (tC (.ref CS)) := pe_glob (X := X.suite a ((a, oe) :: pn)) gR mR rfl
  have nV : PE (X.suite a ((a, oe) :: pn)) (.Name "ValueError" pd) (tC (.ty "ValueError")) := pe_bltn (X := X.suite a ((a, oe) :: pn)) (v := .ty "ValueError") gV mV (by decide +kernel) rfl
  have c1 := pe_callB (X := X.suite a ((a, oe) :: pn)) (p := p7) (pos := pa) (call_isX T hz hf) gI mI (by decide +kernel) (pa_cons (hvar p8) (pa_cons nR pa_nil))
  have c2 := pe_callB (X := X.suite a ((a, oe) :: pn)) (p := pb) (pos := pe) (call_isX T hz hf) gI mI (by decide +kernel) (pa_cons (hvar pc) (pa_cons nV pa_nil))
  have tup := pe_tup (x1 := k0) (pos := p5) (pa_cons (pe_str (X := X.suite a ((a, oe) :: pn)) (x := nm) (j := j1) (pos := p2)) (pa_cons attr (pa_cons (pe_andT (pos := pf) c1 (pe_one c2)) pa_nil)))
  refine (ps_set (X := X.suite a ((a, oe) :: pn)) (pos := p6) (pos' := p1) hN hj (.inl hk) tup rfl (.inr hk)).run pins s q G D I ?_
  refine ⟨.ref a, hq, rfl, rfl, dx, _, v, rfl, hx, rfl, ?_⟩
  refine ⟨.ref a, hq, .ref CS, .ref CS, true, _, rfl, fun u e => e, hx, kR, true, rfl, ?_⟩
  refine ⟨.ref a, hq, .ty "ValueError", .type "ValueError", true, _, rfl, fun u e => e, hx, kV, ?_⟩
  exact ⟨line_le (by show 3 ≤ lineN; decide), r⟩
theorem s_all0 {k : Int} (hN : X.N.Nodup) (hj : X.N[j]? = some fnd) (hk : X.env.scope.names.lookup fnd = some .local) :
    PSs (X.suite a ((a, oe) :: pn)) [.Assign [.Name fnd p1] (.Tuple [.Constant (.str nm) j1 p2, .Constant (.int k) j2 p3] k0 p5) p6] (sAll false nm k j a cls d) :=
  pss_one (PS.by (ps_set (X := X.suite a ((a, oe) :: pn)) hN hj (.inl hk) (pe_tup (pa_cons pe_str (pa_cons pe_int pa_nil))) rfl (.inr hk)) fun D q G h => ⟨line_le (by show 2 ≤ lineN; decide), h⟩)
theorem s_all1 {k : Int} (hN : X.N.Nodup) (hj : X.N[j]? = some fnd) (hk : X.env.scope.names.lookup fnd = some .local) :
    PSs (X.suite a ((a, oe) :: pn)) [.Assign [.Name fnd p1] (.Tuple [.Constant (.str nm) j1 p2, .Constant (.int k) j2 p3, .Constant (.bool true) j3 p4] k0 p5) p6] (sAll true nm k j a cls d) :=
  pss_one (PS.by (ps_set (X := X.suite a ((a, oe) :: pn)) hN hj (.inl hk) (pe_tup (pa_cons pe_str (pa_cons pe_int (pa_cons pe_bl pa_nil)))) rfl (.inr hk)) fun D q G h => ⟨line_le (by show 3 ≤ lineN; decide), h⟩)
end
/-- the names that isinstance asks for -/
structure IsN (mg : Str → Option Value) (sg : Scope) (CS : Addr) : Prop where
  gI : sg.names.lookup ("isinstance" : Str) = some .globalImplicit
  mI : mg "isinstance" = none
  gR : sg.names.lookup ("Refused" : Str) = some .globalImplicit
  mR : mg "Refused" = some (.ref CS)
  gV : sg.names.lookup ("ValueError" : Str) = some .globalImplicit
  mV : mg "ValueError" = none
/-- the clauses `except x as err: fnd = (nm, err.what ..)`, the last one `except Refused: fnd = (lab, k ..)` -/
inductive HdF (K : PySem.W.Frag) (mg : Str → Option Value) (sg : Scope) (err fnd : Str) (CS : Addr) (lab : Str) (k : Int) : Bool → List ExceptHandler → List (Str × Addr × Str) → Prop
  | last0 {j1 j2 k0 : Nat} {p1 p2 p3 p5 p6 p7 p8 : Pos} (hm : mg "Refused" = some (.ref CS)) (hg : sg.names.lookup ("Refused" : Str) = some .globalImplicit) : HdF K mg sg err fnd CS lab k false [.ExceptHandler (some (.Name "Refused" p7)) none [.Assign [.Name fnd p1] (.Tuple [.Constant (.str lab) j1 p2, .Constant (.int k) j2 p3] k0 p5) p6] p8] []
  | last1 {j1 j2 j3 k0 : Nat} {p1 p2 p3 p4 p5 p6 p7 p8 : Pos} (hm : mg "Refused" = some (.ref CS)) (hg : sg.names.lookup ("Refused" : Str) = some .globalImplicit) : HdF K mg sg err fnd CS lab k true [.ExceptHandler (some (.Name "Refused" p7)) none [.Assign [.Name fnd p1] (.Tuple [.Constant (.str lab) j1 p2, .Constant (.int k) j2 p3, .Constant (.bool true) j3 p4] k0 p5) p6] p8] []
  | cl0 {x nm : Str} {C : Addr} {j1 k0 : Nat} {p1 p2 p3 p4 p5 p6 p7 p8 : Pos} {hs : List ExceptHandler} {l : List (Str × Addr × Str)} (T : XfC K C) (hw : PySem.W.findIn K (.ref C) "what" = some none) (hm : mg x = some (.ref C)) (hg : sg.names.lookup x = some .globalImplicit) (hd : (x == ("__debug__" : Str)) = false) (r : HdF K mg sg err fnd CS lab k false hs l) :
      HdF K mg sg err fnd CS lab k false (.ExceptHandler (some (.Name x p7)) (some err) [.Assign [.Name fnd p1] (.Tuple [.Constant (.str nm) j1 p2, .Attribute (.Name err p3) "what" p4] k0 p5) p6] p8 :: hs) ((x, C, nm) :: l)
  | cl1 {x nm : Str} {C : Addr} {j1 k0 : Nat} {p1 p2 p3 p4 p5 p6 p7 p8 q1 q2 q3 q4 q5 q6 q7 q8 q9 : Pos} {hs : List ExceptHandler} {l : List (Str × Addr × Str)} (T : IsE K C) (hw : PySem.W.findIn K (.ref C) "what" = some none) (hm : mg x = some (.ref C)) (hg : sg.names.lookup x = some .globalImplicit) (hd : (x == ("__debug__" : Str)) = false) (n : IsN mg sg CS)
      (kR : PySem.W.kitOne K (.ref C) (.ref CS) = some true) (kV : PySem.W.kitOne K (.ref C) (.type "ValueError") = some true) (r : HdF K mg sg err fnd CS lab k true hs l) :
      HdF K mg sg err fnd CS lab k true (.ExceptHandler (some (.Name x p7)) (some err) [.Assign [.Name fnd p1] (.Tuple [.Constant (.str nm) j1 p2, .Attribute (.Name err p3) "what" p4, .BoolOp .And [.Call (.Name "isinstance" q1) [.Name err q2, .Name "Refused" q3] [] q4, .Call (.Name "isinstance" q5) [.Name err q6, .Name "ValueError" q7] [] q8] q9] k0 p5) p6] p8 :: hs) ((x, C, nm) :: l)
def clauF (b : Bool) (CS : Addr) (lab : Str) (k : Int) (i j : Nat) (l : List (Str × Addr × Str)) : List (Value × Option Nat × Sui) := l.map (fun e => (.ref e.2.1, some i, sFnd b e.2.1 e.2.2 i j)) ++ [(.ref CS, none, sAll b lab k j)]
theorem HdF.clauses {X : Cx} {err fnd lab : Str} {CS : Addr} {k : Int} {i j : Nat} (hN : X.N.Nodup) (hi : X.N[i]? = some err) (hk : X.env.kindOf err = some .local) (h1 : (err == ("__debug__" : Str)) = false) (h2 : (err == ("__classdict__" : Str)) = false) (hj : X.N[j]? = some fnd) (hkf : X.env.scope.names.lookup fnd = some .local) :
    ∀ {b : Bool} {hs : List ExceptHandler} {l : List (Str × Addr × Str)}, HdF X.K X.mg X.env.scope err fnd CS lab k b hs l → Clauses X hs (clauF b CS lab k i j l)
  | _, _, _, .last0 hm hg => .cl ⟨hg, by decide, .inl hm⟩ .no (fun a oe cls d pn hz hf => s_all0 hN hj hkf) .no
  | _, _, _, .last1 hm hg => .cl ⟨hg, by decide, .inl hm⟩ .no (fun a oe cls d pn hz hf => s_all1 hN hj hkf) .no
  | _, _, _, .cl0 T hw hm hg hd r => .cl ⟨hg, hd, .inl hm⟩ (.as hi hk) (fun a oe cls d pn hz hf => s_fnd0 T hw hz hf hN hi (.inl hk) h1 h2 hj hkf) (r.clauses hN hi hk h1 h2 hj hkf)
  | _, _, _, .cl1 T hw hm hg hd n kR kV r => .cl ⟨hg, hd, .inl hm⟩ (.as hi hk) (fun a oe cls d pn hz hf => s_fnd1 T hw hz hf hN hi (.inl hk) h1 h2 hj hkf n.gI n.mI n.gR n.mR n.gV n.mV kR kV) (r.clauses hN hi hk h1 h2 hj hkf)
/-- what the clauses make of a refusal -/
def wHearF (K : PySem.W.Frag) (b : Bool) (CS : Addr) (lab : Str) (k : Int) (Q : VK) : List (Str × Addr × Str) → XK
  | [] => fun cls _ G => PySem.W.exmOne K cls (.ref CS) = some true ∧ ∀ T, G T = none → Q (.ref T) (upd G T (.tup (.str lab :: .int k :: tailB b)))
  | (_, C, nm) :: r => fun cls d G => ∃ yes, PySem.W.exmOne K cls (.ref C) = some yes ∧ (yes = true → cls = .ref C ∧ ∃ dx v, d = some dx ∧ G dx = some (.xd [("what", v)]) ∧ ∀ T, G T = none → Q (.ref T) (upd G T (.tup (.str nm :: v :: tailB b)))) ∧ (yes = false → wHearF K b CS lab k Q r cls d G)
def THearF (K : PySem.W.Frag) (b : Bool) (CS : Addr) (lab : Str) (k : Int) (tag : Str) (l : List (Str × Addr × Str)) : (XK → Hp → VK → Prop) → Hp → VK → Prop := fun tl H Q => tl (wHearF K b CS lab k Q l) H fun v G => [V.str tag, v].length ≤ sizeLine ∧ ∀ T, G T = none → Q (.ref T) (upd G T (.tup [.str tag, v]))
omit [Tbs] in
theorem wHearF_clauses {K : PySem.W.Frag} {b : Bool} {CS : Addr} {lab : Str} {k : Int} {Q : VK} {D : Ends} {i j : Nat} {q : L2.St} (hi : i < q.length) (hj : j < q.length) (hij : i ≠ j) (hD : ∀ T (σ : L2.St) G, σ[j]? = some (some (.ref T)) → Q (.ref T) G → D.nx σ G) : ∀ {l : List (Str × Addr × Str)} {cls : Value} {d : Option Addr} {G : Hp}, wHearF K b CS lab k Q l cls d G →
    wClauses K D (fun _ _ _ _ => False) (clauF b CS lab k i j l) cls d q G
  | [], cls, d, G, ⟨h1, h2⟩ => ⟨true, h1, fun _ a _ T hT => hD T _ _ (List.getElem?_set_self hj) (h2 T hT), fun z => by cases z⟩
  | (_, C, nm) :: l, cls, d, G, ⟨yes, h1, h2, h3⟩ => ⟨yes, h1, fun y a _ => by
      obtain ⟨e1, dx, v, e2, e3, r⟩ := h2 y
      refine ⟨e1, List.getElem?_set_self hi, dx, v, e2, e3, fun T hT => hD T _ _ ?_ (r T hT)⟩
      show (((q.set i (some (.ref a))).set j (some (.ref T))).set i none)[j]? = _
      rw [List.getElem?_set_ne hij]
      exact List.getElem?_set_self (by rw [List.length_set]; exact hj), fun y => wHearF_clauses hi hj hij hD (h3 y)⟩
theorem hearF_gives {X : Cx} {Ng : List Str} {x a q err fnd tag lab : Str} {CS : Addr} {kk : Int} {b : Bool} {sg : Scope} {g : Addr} {cdg : Value} {j0 k0 i j : Nat} {l : List (Str × Addr × Str)} {h0 : ExceptHandler} {hs : List ExceptHandler} {p1 p2 p3 p4 p5 p6 p7 p8 : Pos} (hN : Ng.Nodup) (hi : Ng[i]? = some err) (hk : sg.names.lookup err = some .local) (h1 : (err == ("__debug__" : Str)) = false) (h2 : (err == ("__classdict__" : Str)) = false)
    (hj : Ng[j]? = some fnd) (hkf : sg.names.lookup fnd = some .local) (f1 : (fnd == ("__debug__" : Str)) = false) (f2 : (fnd == ("__classdict__" : Str)) = false) (hij : i ≠ j) (hh : HdF X.K X.mg sg err fnd CS lab kk b (h0 :: hs) l) (hs0 : ∀ f : Addr, (L2.start Ng [V.ref f])[0]? = some (some (V.ref f))) :
    GivesTo X Ng x sg g cdg [.Try [.Return (some (.Tuple [.Constant (.str tag) j0 p1, .Call (.Name a p2) [] [] p3] k0 p4)) p5] (h0 :: hs) [] [] p6, .Return (some (.Name fnd p7)) p8] a q (THearF X.K b CS lab kk tag l) := by
  intro f c' s H Q tl act hc h
  let Z : Cx := (cxOf C8.CX0 X.prog X.w X.K X.mg X.base Ng x sg g cdg X.A X.stack s H C8.E0).nox
  have li : i < Ng.length := (List.getElem?_eq_some_iff.mp hi).1
  have lj : j < Ng.length := (List.getElem?_eq_some_iff.mp hj).1
  let rd0 : WX → TS := fun W D q' G => ∃ Ech : XK, (∀ cls d σ' H', Ech cls d H' → σ'.length = Ng.length → W cls d σ' H') ∧ q'[0]? = some (some (.ref f)) ∧ G c' = some (CodeO c' q) ∧ tl Ech G fun v G2 => [V.str tag, v].length ≤ sizeLine ∧ ∀ T, G2 T = none → D.rt (.ref T) (upd G2 T (.tup [.str tag, v]))
  have body : ∀ (W : WX) (pn : List (Addr × Obj)) (xe : Value → Shared → Prop), Takes (Z.tr pn xe) W → PassesOwn (model Z.prog Z.w) Z.A Z.env xe → PSs (Z.tr pn xe) [.Return (some (.Tuple [.Constant (.str tag) j0 p1, .Call (.Name a p2) [] [] p3] k0 p4)) p5] (rd0 W) := fun W pn xe tk _ => by
    refine ⟨fun pins s' σ H' D I ⟨Ech, hW, e1, e2, e3⟩ => ?_⟩
    have tk' : Takes (Z.tr pn xe) (fun cls d σ' H' => σ'.length = Ng.length → W cls d σ' H') := takes_len tk
    have ex := pe_tup (x1 := k0) (pos := p4) (pa_cons (pe_str (X := Z.tr pn xe) (x := tag) (j := j0) (pos := p1)) (pa_cons (act _ pn xe Ech p2 p3 tk' hW) pa_nil))
    exact (pss_one (ps_ret (pos := p5) ex)).run pins s' σ H' D I ⟨e1, e2, e3⟩
  have back : PSs Z [.Return (some (.Name fnd p7)) p8] (fun D σ G => ∃ v, σ[j]? = some (some v) ∧ D.rt v G) := pss_one (PS.by (ps_ret (pe_var (X := Z) hj (.inl hkf) f1 f2)) fun D σ G h => h)
  refine ⟨_, pss_cons (ps_clauses (X := Z) (tb := rd0) rfl rfl hN LamX.takes0 body (HdF.clauses (X := Z) hN hi hk h1 h2 hj hkf hh)) back, ?_⟩
  exact ⟨wHearF X.K b CS lab kk Q l, fun cls d σ' H' w hl => wHearF_clauses (D := { nx := fun σ' H' => ∃ v, σ'[j]? = some (some v) ∧ Q v H', rt := Q }) (by rw [hl]; exact li) (by rw [hl]; exact lj) hij (fun T σ G e z => ⟨.ref T, e, z⟩) w, hs0 f, hc, h⟩
end MV

set_option Elab.async false
set_option linter.all false
set_option maxRecDepth 100000
set_option maxHeartbeats 400000
namespace MV
open PySem PySem.Spec PyProof.Rows L2 LamX
variable [Tbs]
def tailD : Bool → List PyData
  | true => [.bool true]
  | false => []
/-- heard(lambda: e), what it was told kept: b, with the look at the classes; lab, k: of any other refusal -/
def fHearF (b : Bool) (tag : Str) (ls : List (Str × Str)) (lab : Str) (k : Int) (fe : EF) : EF := fun env st => match fe env st with
  | .ok d s => mkTup [.p (.str tag), d] s
  | .exc y (.p w) s => match hearX ls y with
    | some nm => .ok (.p (.tuple (.str nm :: w :: tailD b))) s
    | none => if refL.contains y then .ok (.p (.tuple (.str lab :: .int k :: tailD b))) s else .bad
  | _ => .bad
structure IsHearF (K : PySem.W.Frag) (mg : Str → Option Value) (x : Str) (b : Bool) (tag : Str) (ls : List (Str × Str)) (lab : Str) (kk : Int) : Prop where
  ex : ∃ (g CS : Addr) (st : Stmt) (fd : FuncData) (err fnd : Str) (i j j0 k0 : Nat) (Ng : List Str) (l : List (Str × Addr × Str)) (h0 : ExceptHandler) (hs : List ExceptHandler) (p1 p2 p3 p4 p5 p6 p7 p8 : Pos), mg x = some (.ref g) ∧ Fun K x x st g fd ∧ Binds K fd ["call"] [] ∧ FnScope Ng ["call"] (defScope st) ∧
    Vis (defScope st) "call" ∧ Ng[0]? = some ("call" : Str) ∧ Ng[i]? = some err ∧ (defScope st).names.lookup err = some .local ∧ (err == ("__debug__" : Str)) = false ∧ (err == ("__classdict__" : Str)) = false ∧
    Ng[j]? = some fnd ∧ (defScope st).names.lookup fnd = some .local ∧ (fnd == ("__debug__" : Str)) = false ∧ (fnd == ("__classdict__" : Str)) = false ∧ i ≠ j ∧ HdF K mg (defScope st) err fnd CS lab kk b (h0 :: hs) l ∧ l.map (fun e => (e.1, e.2.2)) = ls ∧ (∀ e ∈ l, e.1 ∈ refL) ∧ (∀ e ∈ l, mg e.1 = some (.ref e.2.1)) ∧
    (∀ y ∈ refL, ∀ C, mg y = some (.ref C) → PySem.W.exmOne K (.ref C) (.ref CS) = some true ∧ ∀ e ∈ l, PySem.W.exmOne K (.ref C) (.ref e.2.1) = some (decide (y = e.1))) ∧
    defBody st = [.Try [.Return (some (.Tuple [.Constant (.str tag) j0 p1, .Call (.Name "call" p2) [] [] p3] k0 p4)) p5] (h0 :: hs) [] [] p6, .Return (some (.Name fnd p7)) p8]
omit [Tbs] in
theorem hearX_no : ∀ {l : List (Str × Addr × Str)} {y : Str}, hearX (l.map fun e => (e.1, e.2.2)) y = none → ∀ e ∈ l, e.1 ≠ y
  | [], _, _, _, h => by cases h
  | (x, C, n) :: l, y, h, e, m => by
    have h : (if x = y then some n else hearX (l.map fun e => (e.1, e.2.2)) y) = none := h
    by_cases c : x = y
    · rw [if_pos c] at h; cases h
    · rw [if_neg c] at h
      rcases List.mem_cons.mp m with rfl | m
      · exact c
      · exact hearX_no h e m
omit [Tbs] in
theorem wHearF_of {K : PySem.W.Frag} {b : Bool} {CS : Addr} {lab : Str} {k : Int} {Q : VK} {y nm : Str} {C : Addr} {dx : Addr} {v : V} {G : Hp} (hx : G dx = some (.xd [("what", v)])) (hq : ∀ T, G T = none → Q (.ref T) (upd G T (.tup (.str nm :: v :: tailB b)))) :
    ∀ {l : List (Str × Addr × Str)}, (∀ e ∈ l, PySem.W.exmOne K (.ref C) (.ref e.2.1) = some (decide (y = e.1))) → (∀ e ∈ l, e.1 = y → e.2.1 = C) → hearX (l.map fun e => (e.1, e.2.2)) y = some nm → wHearF K b CS lab k Q l (.ref C) (some dx) G
  | [], _, _, h => by cases h
  | (x, C', n) :: l, h1, h2, h => by
    have h : (if x = y then some n else hearX (l.map fun e => (e.1, e.2.2)) y) = some nm := h
    refine ⟨_, h1 _ (.head _), fun yes => ?_, fun no => ?_⟩
    · have e : y = x := of_decide_eq_true yes
      rw [if_pos e.symm] at h
      cases h
      have ec : C' = C := h2 _ (.head _) e.symm
      exact ⟨by rw [ec], dx, v, rfl, hx, hq⟩
    · have e : ¬ y = x := of_decide_eq_false no
      rw [if_neg (fun z => e z.symm)] at h
      exact wHearF_of hx hq (fun e m => h1 e (.tail _ m)) (fun e m => h2 e (.tail _ m)) h
omit [Tbs] in
theorem wHearF_none {K : PySem.W.Frag} {b : Bool} {CS : Addr} {lab : Str} {k : Int} {Q : VK} {C : Addr} {d : Option Addr} {G : Hp} (hc : PySem.W.exmOne K (.ref C) (.ref CS) = some true) (hq : ∀ T, G T = none → Q (.ref T) (upd G T (.tup (.str lab :: .int k :: tailB b)))) :
    ∀ {l : List (Str × Addr × Str)}, (∀ e ∈ l, PySem.W.exmOne K (.ref C) (.ref e.2.1) = some false) → wHearF K b CS lab k Q l (.ref C) d G
  | [], _ => ⟨hc, hq⟩
  | (x, C', n) :: l, h1 => ⟨_, h1 _ (.head _), (fun z => by cases z), fun _ => wHearF_none hc hq (fun e m => h1 e (.tail _ m))⟩
theorem tail_rep {K : PySem.W.Frag} {F : Addr → Prop} {H : Hp} : ∀ {b : Bool}, RepPs K F H (tailD b) (tailB b)
  | true => ⟨_, _, rfl, rfl, rfl⟩
  | false => rfl
theorem e_hearF {X : Cx} {W : WX} {x tag lab : Str} {kk : Int} {b : Bool} {k : Nat} {nb : Bool} {ls : List (Str × Str)} {params : Arguments} {body : Expr} {scope : Scope} {fe : EF} {p lpos pos : Pos} (g : GX X (k + 2) nb) (hl : IsHearF X.K X.mg x b tag ls lab kk) (hk : LamK X) (L : LamS X.env.scope scope)
    (hb : ∀ (A : Around) (outer : List Env) (s : Shared) (H : Hp) (E : XK) (f c' : Addr), GX (lamCx X A outer s H E scope f c') k false → Takes (lamCx X A outer s H E scope f c') (fun cls d _ H' => E cls d H') → PE (lamCx X A outer s H E scope f c') body (rdE (lamCx X A outer s H E scope f c') (fun cls d _ H' => E cls d H') fe))
    (hdef : defaultsOf params X.env = ([], []) := by rfl) (hbind : ∀ (q : Str) (cl : List (Str × Addr)) (pm cv ctv : Value), bindArgs (PySem.W.kla_fn "<lambda>" q params body scope cl pm cv ctv) ⟨[], []⟩ = pure [] := by intros; rfl)
    (hg : Gl X x := by rfl) (hdb : (x == ("__debug__" : Str)) = false := by decide) : PE X (.Call (.Name x p) [.Lambda params body scope lpos] [] pos) (rdE X W (fHearF b tag ls lab kk fe)) := by
  obtain ⟨f0, CS, st, fd, err, fnd, i, j, j0, k0, Ng, l, h0, hs, p1, p2, p3, p4, p5, p6, p7, p8, hm, F, hbn, S, hv, hN0, hi, hke, hd1, hd2, hj, hkf, hf1, hf2, hij, hh, hls, hin, hmem, sep, hbd⟩ := hl.ex
  obtain ⟨oc, od, kV, doc, pm, an, cdv, ct, osl, rfl, lk, hcd⟩ := F.ex
  obtain ⟨c, P, hcode, TB, hT, hu⟩ := hk.ex
  have s0 : ∀ f : Addr, (L2.start Ng [V.ref f])[0]? = some (some (V.ref f)) := fun f => rfl
  have G : GivesTo X Ng x (defScope st) f0 cdv (defBody st) "call" (X.env.qual ++ "<lambda>") (THearF X.K b CS lab kk tag l) := by
    rw [hbd]
    exact hearF_gives S.nd hi hke hd1 hd2 hj hkf hf1 hf2 hij hh s0
  refine PE.by (pe_lamcall (T := Tbs.T) (Ng := Ng) (t := fun E => rdE X (fun cls d _ H' => E cls d H') fe) hg hm F.kp lk hcd hbn S hN0 hv G TB hcode hT hu g.hr L hdef hbind (fun A outer s H E f c' hr => ?_) hdb) fun σ H Q ⟨c0, env, st0, er, w, hp⟩ => ?_
  · exact hb A outer s H E f c' ⟨hr, (fun z => by cases z), rfl, g.nd, passes_of (E₁ := fun e' s'' => L2.CX X.prog X.w outer H s E e' s'') rfl⟩ (takes_of (E₁ := fun e' s'' => L2.CX X.prog X.w outer H s E e' s'') rfl rfl rfl rfl)
  · refine ⟨w.tabs, fun H1 xn t1 => ?_⟩
    obtain ⟨gr, w1⟩ := w.exn xn t1
    refine ⟨c0, env, st0, er.up gr, w1, ?_⟩
    have l2 : 2 ≤ sizeLine := line_le (by decide)
    unfold fHearF at hp
    cases hf : fe env st0 with
    | ok d s =>
      rw [hf] at hp
      simp only [mkTup] at hp
      intro c' H' v g' w' rv
      cases d with
      | r _ => exact (show False from hp).elim
      | sl _ => exact (show False from hp).elim
      | p d =>
        simp only [allP_cons, allP_nil, Option.map_some] at hp
        obtain ⟨_, hp⟩ := Post.when hp
        exact ⟨l2, new_tup w' (ps := [.str tag, d]) (vs := [.str tag, v]) ⟨_, _, rfl, rfl, _, _, rfl, rv, rfl⟩ (hp.up (gr.trans g'))⟩
    | exc y d s =>
      rw [hf] at hp
      cases d with
      | r _ => exact (show False from hp).elim
      | sl _ => exact (show False from hp).elim
      | p w =>
        simp only at hp
        cases hx : hearX ls y with
        | none =>
          rw [hx] at hp
          simp only at hp
          obtain ⟨hy, hp⟩ := Post.when hp
          have hy : y ∈ refL := by simpa using hy
          intro c' H' C dx v g' w' hm' hxd rv
          obtain ⟨s1, s2⟩ := sep y hy C hm'
          rw [← hls] at hx
          refine wHearF_none s1 (fun T hT => ?_) (fun e m => ?_)
          · exact new_tup w' (ps := .str lab :: .int kk :: tailD b) (vs := .str lab :: .int kk :: tailB b) ⟨_, _, rfl, rfl, _, _, rfl, rfl, tail_rep⟩ (hp.up (gr.trans g')) T hT
          · rw [s2 e m, decide_eq_false (fun z => hearX_no hx e m z.symm)]
        | some nm =>
          rw [hx] at hp
          intro c' H' C dx v g' w' hm' hxd rv
          rw [← hls] at hx
          obtain ⟨C', mem⟩ := hearX_mem hx
          obtain ⟨_, s2⟩ := sep y (hin _ mem) C hm'
          refine wHearF_of hxd (fun T hT => ?_) s2 (fun e m e1 => ?_) hx
          · exact new_tup w' (ps := .str nm :: w :: tailD b) (vs := .str nm :: v :: tailB b) ⟨_, _, rfl, rfl, _, _, rfl, rv, tail_rep⟩ (hp.up (gr.trans g')) T hT
          · cases (hmem _ m).symm.trans ((congrArg X.mg e1).trans hm')
            rfl
    | bad => rw [hf] at hp; exact hp.elim
/-! what the end gathers of it -/
omit [Tbs] in
theorem in_of {l : List (Str × Addr × Str)} (h : (l.all fun e => refL.contains e.1) = true) : ∀ e ∈ l, e.1 ∈ refL := fun e m => by
  have := List.all_eq_true.mp h e m
  simpa using this
omit [Tbs] in
def sepR (K : PySem.W.Frag) (CS : Addr) (l : List (Str × Addr × Str)) (y : Str) (C : Addr) : Bool := PySem.W.exmOne K (.ref C) (.ref CS) == some true && l.all fun e => PySem.W.exmOne K (.ref C) (.ref e.2.1) == some (decide (y = e.1))
omit [Tbs] in
theorem sepR_nil {K : PySem.W.Frag} {mg : Str → Option Value} {CS : Addr} {l : List (Str × Addr × Str)} : ∀ y ∈ ([] : List Str), ∀ C, mg y = some (.ref C) → PySem.W.exmOne K (.ref C) (.ref CS) = some true ∧ ∀ e ∈ l, PySem.W.exmOne K (.ref C) (.ref e.2.1) = some (decide (y = e.1)) := fun _ h => by cases h
omit [Tbs] in
theorem sepR_cons {K : PySem.W.Frag} {mg : Str → Option Value} {CS a : Addr} {l : List (Str × Addr × Str)} {x : Str} {ys : List Str} (h : mg x = some (.ref a)) (e : sepR K CS l x a = true) (r : ∀ y ∈ ys, ∀ C, mg y = some (.ref C) → PySem.W.exmOne K (.ref C) (.ref CS) = some true ∧ ∀ e ∈ l, PySem.W.exmOne K (.ref C) (.ref e.2.1) = some (decide (y = e.1))) :
    ∀ y ∈ x :: ys, ∀ C, mg y = some (.ref C) → PySem.W.exmOne K (.ref C) (.ref CS) = some true ∧ ∀ e ∈ l, PySem.W.exmOne K (.ref C) (.ref e.2.1) = some (decide (y = e.1)) := fun y hy C hC => by
  rcases List.mem_cons.mp hy with rfl | hy
  · rw [h] at hC
    cases hC
    obtain ⟨e1, e2⟩ := Bool.and_eq_true_iff.mp e
    exact ⟨eq_of_beq e1, fun e m => eq_of_beq (List.all_eq_true.mp e2 e m)⟩
  · exact r y hy C hC
omit [Tbs] in
theorem sepR_none {K : PySem.W.Frag} {mg : Str → Option Value} {CS : Addr} {l : List (Str × Addr × Str)} {x : Str} {ys : List Str} (h : mg x = none) (r : ∀ y ∈ ys, ∀ C, mg y = some (.ref C) → PySem.W.exmOne K (.ref C) (.ref CS) = some true ∧ ∀ e ∈ l, PySem.W.exmOne K (.ref C) (.ref e.2.1) = some (decide (y = e.1))) :
    ∀ y ∈ x :: ys, ∀ C, mg y = some (.ref C) → PySem.W.exmOne K (.ref C) (.ref CS) = some true ∧ ∀ e ∈ l, PySem.W.exmOne K (.ref C) (.ref e.2.1) = some (decide (y = e.1)) := fun y hy C hC => by
  rcases List.mem_cons.mp hy with rfl | hy
  · rw [h] at hC
    cases hC
  · exact r y hy C hC
end MV

set_option Elab.async false
set_option linter.all false
set_option maxRecDepth 100000
set_option maxHeartbeats 400000
namespace MV
open PySem PySem.Spec PyProof.Rows L2
/-! ## t[::-1] -/
theorem back_bounds (n : Nat) : Builtin.Slice.sliceAdjust none none (-1) (n : Int) = ((n : Int) - 1, -1) := by
  unfold Builtin.Slice.sliceAdjust
  simp
theorem back_places (n : Nat) : Builtin.Slice.slicePlaces ((n : Int) - 1) (-1) (-1) = n := by
  unfold Builtin.Slice.slicePlaces
  simp
  omega
theorem fm_congr {α β : Type} {f g : α → Option β} : ∀ (l : List α), (∀ x ∈ l, f x = g x) → l.filterMap f = l.filterMap g
  | [], _ => rfl
  | x :: l, h => by
    have e := h x (.head _)
    have ih := fm_congr l fun y hy => h y (.tail _ hy)
    cases hg : g x with
    | none => rw [List.filterMap_cons_none (e.trans hg), List.filterMap_cons_none hg, ih]
    | some y => rw [List.filterMap_cons_some (e.trans hg), List.filterMap_cons_some hg, ih]
theorem fm_all {α : Type} (l : List α) : (List.range l.length).filterMap (fun k => l[k]?) = l := by
  induction l with
  | nil => rfl
  | cons x l ih =>
    rw [List.length_cons, List.range_succ_eq_map, List.filterMap_cons_some (f := fun k => (x :: l)[k]?) (a := 0) (b := x) rfl, List.filterMap_map]
    congr 1
theorem back_pick (xs : Array Value) : ((List.range xs.size).filterMap fun (k : Nat) => xs[((xs.size : Int) - 1 + (k : Int) * (-1)).toNat]?).toArray = xs.toList.reverse.toArray := by
  congr 1
  rw [← fm_all xs.toList.reverse]
  have hl : xs.toList.reverse.length = xs.size := by simp
  rw [hl]
  refine fm_congr _ fun k hk => ?_
  have hk := List.mem_range.mp hk
  have e : ((xs.size : Int) - 1 + (k : Int) * (-1)).toNat = xs.size - 1 - k := by omega
  rw [e, List.getElem?_reverse (by simpa using hk)]
  simp
section
variable {prog : Program} {w : World} {A : Around} {E : Value → Shared → Prop} {s : Shared}
theorem back_applied {sl : Addr} {vl vu vs : Value} {n : Nat} {Q : Int × Int × Nat → Shared → Prop} (hs : s.heap.IsSliceOf sl vl vu vs) (pl : IsPart vl none) (pu : IsPart vu none) (ps : IsPart vs (some (-1)))
    (h : Q ((n : Int) - 1, -1, n) s) : wpAny (model prog w) A (Builtin.Slice.sliceApplied (.ref sl) (pure (n : Int))) Q E s := by
  obtain ⟨o, e, _, f⟩ := id hs
  cases pl
  cases pu
  cases ps with
  | int _ t =>
    unfold Builtin.Slice.sliceApplied Builtin.Slice.sliceFields
    refine wpAny_bind (wpAny_bind (wpAny_field e f (x := .none) rfl (wpAny_bind (wpAny_field e f (x := .none) rfl (wpAny_bind (wpAny_field e f (x := .int (-1) t) rfl (wpAny_pure ?_)))))))
    refine wpAny_bind (slicePart_int ?_)
    have nz : ¬ (((-1 : Int) == 0) = true) := by decide
    show wpAny _ _ (if ((-1 : Int) == 0) = true then _ else _) _ _ s
    rw [if_neg nz]
    refine wpAny_bind (slicePart_none (wpAny_bind (slicePart_none (wpAny_bind (wpAny_pure ?_)))))
    show wpAny _ _ (match Builtin.Slice.sliceAdjust none none (-1) (n : Int) with | (lo, hi) => pure (lo, (-1 : Int), Builtin.Slice.slicePlaces lo hi (-1))) _ _ s
    rw [back_bounds]
    show wpAny _ _ (pure ((n : Int) - 1, (-1 : Int), Builtin.Slice.slicePlaces ((n : Int) - 1) (-1) (-1))) _ _ s
    rw [back_places]
    exact wpAny_pure h
theorem back_tuple {t sl : Addr} {items : Array Value} {vl vu vs : Value} {Q : Value → Shared → Prop} (ht : IsTup s.heap t items) (hs : s.heap.IsSliceOf sl vl vu vs) (pl : IsPart vl none) (pu : IsPart vu none) (ps : IsPart vs (some (-1)))
    (h : Q (.ref s.heap.objs.size) { s with heap := s.heap.push { cls := .type "tuple", data := .seq items.toList.reverse.toArray } }) (hz : items.size ≤ sizeLine) : wpAny (model prog w) A (getItem (.ref t) (.ref sl)) Q E s := by
  have fits : sizeOk (.seq items.toList.reverse.toArray) := by
    show items.toList.reverse.toArray.size ≤ sizeLine
    simpa using hz
  obtain ⟨o, e, ec, _⟩ := id hs
  have isSl : s.TypeIs (.ref sl) "slice" := ⟨o, e, ec⟩
  unfold getItem
  try with_reducible refine wpAny_holding ?_
  first | refine wpAny_bind (wpAny_pure ?_) | skip
  refine wpAny_bind (wpAny_sequenceKey ht.typeIs (by decide) ?_)
  refine wpAny_bind (wpAny_callSpecial?_slot (name := Str.ofString "__getitem__") ht.typeIs slot_tuple_getitem (wpAny_call_entry slot_tuple_getitem ht.typeIs entry_tuple_getitem ?_ (args_tuple_getitem _ _)))
  show wpAny _ _ (Builtin.Tuple.tupleItemsOf (.ref t) >>= _) _ _ s
  refine wpAny_bind (tupleItemsOf_ ht (wpAny_bind (wpAny_typeOf isSl ?_)))
  rw [if_pos (by decide)]
  refine wpAny_bind (back_applied hs pl pu ps ?_)
  have not1 : ¬ (((items.size : Int) - 1 == 0 && (-1 : Int) == 1 && items.size == items.size) = true) := by simp
  show wpAny _ _ (if ((items.size : Int) - 1 == 0 && (-1 : Int) == 1 && items.size == items.size) = true then _ else _) _ _ s
  rw [if_neg not1, back_pick]
  first
    | exact wpAny_bind (m := Builtin.Tuple.tupleExact _) (wpAny_newObj_type (wpAny_pure ⟨_, rfl, wpAny_pure h⟩) fits)
    | exact wpAny_bind (m := Builtin.Tuple.tupleExact _) (wpAny_newObj_type (wpAny_bind (wpAny_pure (wpAny_pure ⟨_, rfl, wpAny_pure h⟩))) fits)
    | exact wpAny_bind (wpAny_bind (m := Builtin.Tuple.tupleExact _) (wpAny_newObj_type (wpAny_pure (wpAny_pure ⟨_, rfl, wpAny_pure h⟩)) fits))
    | exact wpAny_bind (wpAny_bind (m := Builtin.Tuple.tupleExact _) (wpAny_newObj_type (wpAny_pure ⟨_, rfl, wpAny_pure h⟩) fits))
end
variable [Tbs]
def revD (m : Bool) (d : D) (st : Sto) : R D := match d with
  | .p (.tuple ds) => .ok (.p (.tuple ds.reverse)) st
  | d => match dat st d with
    | some (.list ds) => if m then .ok (.r st.length) (st ++ [.lst (ds.reverse.map .p)]) else .ok (.p (.list ds.reverse)) st
    | _ => .bad
theorem RepPs.rev {K : PySem.W.Frag} {F : Addr → Prop} {H : Hp} : ∀ {ds : List PyData} {xs : List V}, RepPs K F H ds xs → RepPs K F H ds.reverse xs.reverse
  | [], _, h => by have e : _ = [] := h; rw [e]; exact rfl
  | d :: ds, _, ⟨v, r, e, h1, h2⟩ => by
    rw [e, List.reverse_cons, List.reverse_cons]
    exact (RepPs.rev h2).app ⟨v, [], rfl, h1, rfl⟩
section
variable {X : Cx} {W : WX} {e : Expr} {pos : Pos}
theorem pe_revT {te : TE} {k : Nat} {p1 p2 p3 : Pos} (he : PE X e te) : PE X (.Subscript e (.Slice none none (some (.UnaryOp .USub (.Constant (.int 1) k p1) p2)) p3) pos) (fun σ H Q => te σ H fun x H1 => ∃ a xs, x = .ref a ∧ SqT X.K H1 a xs ∧ ∀ p, H1 p = none → Q (.ref p) (upd H1 p (.tup xs.reverse))) := by
  refine ⟨fun pins s σ H Q I h => ?_⟩
  refine Subscript_ (thn (he.run pins s σ H _ I h) fun v s1 ⟨x, H1, I1, r1, a, xs, ex, hx, q⟩ => ?_)
  subst ex
  cases r1
  have neg1 : PO X (some (.UnaryOp .USub (.Constant (.int 1) k p1) p2)) (tPart (tUn (rU fun i => .int (-i)) (tC (.int 1)))) := po_some (pe_un un_neg pe_int)
  refine wpAny_Slice (thn (po_none.run pins s1 σ H1 (fun o G => o = none ∧ G = H1) I1 ⟨rfl, rfl⟩) fun vl s2 ⟨o2, G2, I2, pl, e2, z2⟩ => ?_)
  subst e2 z2
  refine thn (po_none.run pins s2 σ G2 (fun o G => o = none ∧ G = G2) I2 ⟨rfl, rfl⟩) fun vu s3 ⟨o3, G3, I3, pu, e3, z3⟩ => ?_
  subst e3 z3
  refine thn (neg1.run pins s3 σ G3 (fun o G => o = some (-1) ∧ G = G3) I3 ⟨1, rfl, -1, rfl, rfl, rfl⟩) fun vs s4 ⟨o4, G4, I4, ps, e4, z4⟩ => ?_
  subst e4 z4
  have I5 : Inv X pins σ G4 { s4 with heap := s4.heap.push { cls := .type "slice", data := .fields #[vl, vu, vs] } } := I4.kept (t' := s4.toks) fun _ _ z => Heap.get?_push_of_some _ z
  obtain ⟨its, r, ht, hz⟩ := I5.tuple hx
  have hlen := r.length
  show wpAny (model X.prog X.w) X.A (subscriptTail e _ (.ref a) (.ref s4.heap.objs.size)) _ X.xe _
  refine tail_any (ops := [.ref a, .ref s4.heap.objs.size]) ht.typeIs (slot_tuple_getitem.lookup) ?_ (by with_unfolding_all rfl)
  refine back_tuple ht (Heap.IsSliceOf.new _ vl vu vs) pl pu ps ?_ (by rw [List.size_toArray, ← hlen]; exact hz)
  refine ⟨.ref _, _, I5.laid (t' := s4.toks) (o := .tup xs.reverse) (fun _ _ z => Heap.get?_push_of_some _ z) (Nat.le_refl _) ?_, rfl, q _ (I5.hok.fresh (Nat.le_refl _))⟩
  refine ⟨by rw [List.length_reverse]; exact hz, _, r.reverse, IsTup.new _ _⟩
theorem PE.or {t t' : TE} (h : PE X e t) (h' : PE X e t') : PE X e (fun σ H Q => t σ H Q ∨ t' σ H Q) := ⟨fun pins s σ H Q I q => by
  rcases q with q | q
  · exact h.run pins s σ H Q I q
  · exact h'.run pins s σ H Q I q⟩
theorem e_rev {m : Bool} {fa : EF} {k : Nat} {p1 p2 p3 : Pos} (ha : PE X e (rdE X W fa)) : PE X (.Subscript e (.Slice none none (some (.UnaryOp .USub (.Constant (.int 1) k p1) p2)) p3) pos) (rdE X W (fU (revD m) fa)) := by
  refine PE.by (PE.or (pe_revT ha) (pe_revL ha)) fun σ H Q ⟨c, env, st, er, w, hp⟩ => ?_
  unfold fU at hp
  cases hf : fa env st with
  | bad => rw [hf] at hp; exact hp.elim
  | exc y d st1 =>
    rw [hf] at hp
    exact .inl ⟨c, env, st, er, w, by rw [hf]; exact hp⟩
  | ok d st1 =>
    rw [hf] at hp
    have hp : Post X.K X.mg (rpD X.K) c st.length H (fun cls d H' => W cls d σ H') Q (revD m d st1) := hp
    by_cases ht : ∃ ds, d = .p (.tuple ds)
    · obtain ⟨ds, rfl⟩ := ht
      refine .inl ⟨c, env, st, er, w, ?_⟩
      rw [hf]
      intro c' H' v g' w' ⟨a, xs, e, sq, r⟩
      exact ⟨a, xs, e, sq, new_tup w' r.rev (hp.up g')⟩
    · refine .inr ⟨c, env, st, er, w, ?_⟩
      rw [hf]
      intro c' H' v g' w' rv
      have hp : Post X.K X.mg (rpD X.K) c' st1.length H' (fun cls d H' => W cls d σ H') Q (match dat st1 d with
        | some (.list ds) => if m then .ok (.r st1.length) (st1 ++ [.lst (ds.reverse.map .p)]) else .ok (.p (.list ds.reverse)) st1
        | _ => .bad) := by
        have := hp.up g'
        unfold revD at this
        split at this
        · exact absurd ⟨_, rfl⟩ ht
        · exact this
      cases hd : dat st1 d with
      | none => rw [hd] at hp; exact hp.elim
      | some z =>
        rw [hd] at hp
        cases z with
        | list ds =>
          obtain ⟨a, xs, e, sq, r⟩ := Dp_list w' rv hd
          refine ⟨a, xs, e, sq, ?_⟩
          cases m with
          | true => exact new_ref w' (rep_all r.rev) hp
          | false => exact new_lst w' r.rev hp
        | _ => exact hp.elim
end
end MV

set_option Elab.async false
set_option linter.all false
set_option maxRecDepth 100000
set_option maxHeartbeats 1000000
namespace MV
open PySem PySem.Spec PyProof.Rows L2
/-! ## enumerate(a tuple) -/
theorem enumT_new (t : Addr) (items : Array Value) (n : Nat) (dd : Option Addr) (sl : Array (Option Value)) :
    Meets (Builtin.«enumerate.__new__» ⟨[.type "enumerate", .ref t], []⟩) (fun _ R s => s.heap.get? t = some { cls := .type "tuple", dict := dd, data := .seq items n, slots := sl } ∧
      R (.ok (.ret (.ref (s.heap.push { cls := .type "tuple_iterator", data := .fields #[.ref t, .int 0 0] }).objs.size)))
        { s with heap := (s.heap.push { cls := .type "tuple_iterator", data := .fields #[.ref t, .int 0 0] }).push { cls := .type "enumerate", data := .fields #[.none, .bool false, .ref s.heap.objs.size, rawInt 0, .none, .none] } }) :=
  .of_wp fun prog w A R s z => by
    obtain ⟨hp, gs, dn, tk, os⟩ := s
    obtain ⟨at_t, r⟩ := z
    have sub := sub_enumerate
    have isT : Heap.IsTuple (Shared.heap ⟨hp, gs, dn, tk, os⟩) t items := ⟨_, at_t, rfl, n, rfl⟩
    wp_walk using AutoSeq1.wpAny_loadPart' at_t
    refine wpAny_stack_any fun _ => wpAny_pure ?_
    split
    · rename_i c _ _ _ _ _
      cases (c == Value.type "enumerate") <;> wp_walk using AutoSeq1.wpAny_loadPart' at_t, wpAny_pyIter_tuple isT <;> exact ⟨_, rfl, r⟩
    · wp_walk using AutoSeq1.wpAny_loadPart' at_t, wpAny_pyIter_tuple isT
      exact ⟨_, rfl, r⟩
section
variable {prog : Program} {w : World} {A : Around} {E : Value → Shared → Prop} {s : Shared}
theorem call_enumT {t : Addr} {items : Array Value} {Q : Value → Shared → Prop} (hT : IsTup s.heap t items)
    (q : ∀ h', IsEnum h' (s.heap.objs.size + 1) s.heap.objs.size 0 .none → h'.IsTupleIter s.heap.objs.size t 0 → (∀ b o, s.heap.get? b = some o → h'.get? b = some o) → Q (.ref (s.heap.objs.size + 1)) { s with heap := h' }) :
    wpAny (model prog w) A (call (.type "enumerate") [.ref t]) Q E s := by
  obtain ⟨⟨c, dd, dt, sl⟩, e, hc, n, hd⟩ := hT
  cases (show c = .type "tuple" from hc)
  cases (show dt = .seq items n from hd)
  refine callType_new F.called_enumerate (by decide) (F.typeCall_enumerate_1 _) (F.newCall_enumerate_1 _) (fun obj => F.args_object_init_2 obj _) F.entry_enumerate_new (enumT_new t items n dd sl) ⟨e, ?_⟩
  let h1 := s.heap.push { cls := .type "tuple_iterator", data := .fields #[.ref t, .int 0 0] }
  let oE : Obj := { cls := .type "enumerate", data := .fields #[.none, .bool false, .ref s.heap.objs.size, rawInt 0, .none, .none] }
  have z1 : h1.objs.size = s.heap.objs.size + 1 := Heap.size_push ..
  show _ ∧ _
  rw [show (s.heap.push { cls := .type "tuple_iterator", data := .fields #[.ref t, .int 0 0] }).objs.size = s.heap.objs.size + 1 from z1]
  have isE : IsEnum (h1.push oE) (s.heap.objs.size + 1) s.heap.objs.size 0 .none := by
    have := Heap.get?_push_size h1 (o := oE) rfl
    rw [z1] at this
    exact this
  exact ⟨⟨_, isE, rfl⟩, q _ isE ⟨_, Heap.get?_push_of_some _ (Heap.get?_push_size _ rfl), rfl, rfl⟩ fun b o z => Heap.get?_push_of_some _ (Heap.get?_push_of_some _ z)⟩
end
/-- the tuple at a, each item in a new pair -/
def IteT (K : PySem.W.Frag) (a : Addr) : It :=
  ⟨fun i H => ∃ (xs : List V) (x : V), SqT K H a xs ∧ xs[i]? = some x, fun i H v H' => ∃ T x, v = .ref T ∧ H T = none ∧ H' = upd H T (.tup [.int (i : Nat), x]) ∧ ∀ xs, SqT K H a xs → xs[i]? = some x, fun i H => ∃ xs : List V, SqT K H a xs ∧ xs.length = i⟩
theorem apartT {h : Heap} {e it a : Addr} {i : Int} {k : Nat} {old : Value} {items : Array Value} (E : IsEnum h e it i old) (I : h.IsTupleIter it a k) (T : IsTup h a items) : e ≠ a ∧ it ≠ a := by
  obtain ⟨o, e1, c1, _⟩ := T
  obtain ⟨o2, e2, c2, _⟩ := I
  refine ⟨fun z => ?_, fun z => ?_⟩
  · rw [← z, show h.get? e = _ from E] at e1
    have q := congrArg Obj.cls (Option.some.inj e1)
    rw [show o.cls = .type "tuple" from c1] at q
    simp at q
  · rw [← z, e2] at e1
    have q := congrArg Obj.cls (Option.some.inj e1)
    rw [show o.cls = .type "tuple" from c1, c2] at q
    simp at q
theorem turn_enumT {P : Program} {w : World} {K : PySem.W.Frag} {elts : List Expr} {kk : Nat} {tpos : Pos} (a e it : Addr) :
    Turn P w K (.Tuple elts kk tpos) (IteT K a) [e, it] e (fun i h => (∃ old, IsEnum h e it ((i : Nat) : Int) old) ∧ h.IsTupleIter it a i ∧ e ≠ it) where
  mem := List.mem_cons_self
  obj := fun i h ⟨⟨old, he⟩, ⟨o, ho, hc, hd⟩, _⟩ b hb => by
    rcases List.mem_cons.mp hb with rfl | hb
    · exact ⟨_, he, fun v q => nomatch q⟩
    · rw [List.mem_singleton.mp hb]
      exact ⟨o, ho, fun v q => by rw [hd] at q; cases q⟩
  keep := fun i h h' ⟨⟨old, he⟩, hi, hne⟩ k => ⟨⟨old, k e (.head _) _ he⟩, hi.at fun o q => k it (.tail _ (.head _)) o q, hne⟩
  item := by
    intro X hP hw hK hc i pins s σ H E I hf ⟨⟨old, he⟩, hit, hne⟩ ⟨xs, x, hq, hx⟩
    subst hP hw hK
    obtain ⟨its, rv, p, _⟩ := I.tuple hq
    obtain ⟨u, hu, ru⟩ := rv.get hx
    obtain ⟨na, nb⟩ := apartT he hit p
    have le : e < s.heap.objs.size := Heap.lt_size he
    have li : it < s.heap.objs.size := by obtain ⟨_, q, _⟩ := hit; exact Heap.lt_size q
    have Dr := Draws.tuple (prog := X.prog) (w := X.w) (A := X.A.in1) (show X.A.in1.handled = none from I.ok.hd hc) it a (Ne.symm nb) its.toArray
    have li2 : i < its.toArray.size := by
      rw [List.size_toArray]
      exact (List.getElem?_eq_some_iff.mp hu).1
    refine wpAny_pyNext_enum_itemD Dr he ⟨hit, p⟩ li2 hne (by simp [hne, na]) fun y h' tk hy ho hst hT hz hk => ?_
    have ey : y = u := by
      have : its.toArray[i]? = some u := by simpa using hu
      rw [this] at hy
      exact (Option.some.inj hy).symm
    subst ey
    refine ⟨_, rfl, wpAny_letOwnedTupleGo_enum (s := { s with heap := h', toks := tk + 1 }) ho fun h'' he' sb => ?_⟩
    have at_T : h''.get? s.heap.objs.size = some { cls := .type "tuple", data := .seq #[.int i tk, y] } := (sb.2 _ (Nat.ne_of_gt le)).trans hT
    have new : ObjOk X.prog X.w (upd H s.heap.objs.size (.tup [.int (i : Nat), x])) h'' s.heap.objs.size (.tup [.int (i : Nat), x]) :=
      ⟨by show 2 ≤ sizeLine; decide, [.int i tk, y], .cons ⟨_, rfl⟩ (.cons ru .nil), ⟨_, at_T, rfl, _, rfl⟩⟩
    have I1 : Inv X pins σ (upd H s.heap.objs.size (.tup [.int (i : Nat), x])) { s with heap := h'', toks := tk + 1 } :=
      I.turnedNew (ch := [e, it]) (fun b ob hb q => (sb.2 b (fun z => hb (by simp [z]))).trans (hk b ob (fun z => hb (by simp [z])) (fun z => hb (by simp [z])) q)) hf (Nat.le_refl _) new
    refine ⟨.ref s.heap.objs.size, _, I1, rfl, ⟨_, x, rfl, I.hok.fresh (Nat.le_refl _), rfl, fun ys hy => by rw [I.tuple_inj hy hq]; exact hx⟩, ⟨⟨y, ?_⟩, hst.1.at fun o q => (sb.2 it (Ne.symm hne)).trans q, hne⟩, fun b hb => ?_⟩
    · rw [show ((i + 1 : Nat) : Int) = (i : Int) + 1 by omega]
      exact he'
    · have lb : b < s.heap.objs.size := by
        rcases List.mem_cons.mp hb with rfl | hb
        · exact le
        · rw [List.mem_singleton.mp hb]; exact li
      rw [upd_ne (Nat.ne_of_lt lb)]
      exact (hf b hb).1
  done := by
    intro X hP hw hK hc i pins s σ H E I hf ⟨⟨old, he⟩, hit, hne⟩ ⟨xs, hq, hx⟩
    subst hP hw hK
    obtain ⟨its, rv, p, _⟩ := I.tuple hq
    obtain ⟨na, nb⟩ := apartT he hit p
    have sz : its.toArray.size = i := by rw [List.size_toArray, ← rv.length, hx]
    have Dr := Draws.tuple (prog := X.prog) (w := X.w) (A := X.A.in1) (show X.A.in1.handled = none from I.ok.hd hc) it a (Ne.symm nb) its.toArray
    rw [sz] at Dr
    obtain ⟨f0, f1, f2, f3, f4, f5⟩ := hf e List.mem_cons_self
    obtain ⟨j0, j1, j2, j3, j4, j5⟩ := hf it (.tail _ (.head _))
    exact wpAny_pyNext_enum_endD Dr he ⟨hit, p⟩ fun h' eb => ⟨rfl, I.turned (t' := s.toks) (fun b o hb q => eb b o hb q) j0 j1 j3 j4 j5⟩
  self := fun A i s Q E ⟨⟨_, he⟩, _⟩ h => wpAny_pyIter_enum he h
/-- enumerate of a list or of a tuple -/
def iEnumS (K : PySem.W.Frag) (ta : TA) : TI := fun σ H R => ta σ H fun vs H1 => ∃ a xs, vs = [.ref a] ∧ (SqL K H1 a xs ∧ R (Ite K a) H1 ∨ SqT K H1 a xs ∧ R (IteT K a) H1)
theorem pi_enumS {X : Cx} {e : Expr} {ta : TA} {p pos tpos : Pos} {elts : List Expr} {kk : Nat} (hg : Gl X "enumerate") (hm : X.mg "enumerate" = none) (ha : PA X [e] ta) (hs : starEach [e] X.env = [(false, eval e X.env)] := by rfl) :
    PI X (.Tuple elts kk tpos) (.Call (.Name "enumerate" p) [e] [] pos) (iEnumS X.K ta) := by
  refine ⟨fun pins s σ H R I h => ?_⟩
  refine Call_ (ld_blt I hg hm boot_enumerate (PyProof.Rows.callWith_type1 (thn (ha.run pos pins s σ H _ I h) fun us s1 ⟨vs, H1, I1, r1, a, xs, ex, q1⟩ => ?_) hs rfl))
  subst ex
  have far : ∀ b ∈ [s1.heap.objs.size + 1, s1.heap.objs.size], FpOk X pins H1 b := fun b hb => by
    have le : s1.heap.objs.size ≤ b := by
      rcases List.mem_cons.mp hb with rfl | hb
      · exact Nat.le_succ _
      · exact Nat.le_of_eq (List.mem_singleton.mp hb).symm
    exact I1.fpOk le (I1.hok.fresh le)
  obtain ⟨⟩ | ⟨r, ⟨⟩⟩ := r1
  cases r
  rcases q1 with ⟨sq, q⟩ | ⟨sq, q⟩
  · obtain ⟨its, rv, pl, _⟩ := I1.list sq
    exact call_enumerate_list pl.isList fun h' he hit hsz hk => wpAny_pyIter_enum he
      ⟨_, [s1.heap.objs.size + 1, s1.heap.objs.size], _, _, H1, rfl, I1.kept (t' := s1.toks) hk, turn_enum a _ s1.heap.objs.size, ⟨⟨.none, he⟩, hit, Nat.succ_ne_self _⟩, far, q⟩
  · obtain ⟨its, rv, pl, _⟩ := I1.tuple sq
    exact call_enumT (items := its.toArray) pl fun h' he hit hk => wpAny_pyIter_enum he
      ⟨_, [s1.heap.objs.size + 1, s1.heap.objs.size], _, _, H1, rfl, I1.kept (t' := s1.toks) hk, turn_enumT a _ s1.heap.objs.size, ⟨⟨.none, he⟩, hit, Nat.succ_ne_self _⟩, far, q⟩
section
variable [Tbs]
theorem it_enumT {K : PySem.W.Frag} {mg : Str → Option Value} {c : Cf} {n : Nat} {H : Hp} {a : Addr} {xs : List V} {ds : List PyData} (sq : ∀ c1 n1 H1, Gr c n H c1 n1 H1 → SqT K H1 a xs) (r : RepPs K c.F H ds xs) : ItOK K mg (IteT K a) ((enumL ds).map .p) c n H where
  go := fun i c1 n1 H1 g hi => by
    rw [enumL_len, r.len] at hi
    exact ⟨xs, xs[i], sq c1 n1 H1 g, List.getElem?_eq_getElem hi⟩
  yld := fun i d c1 st1 H1 x H' g w hd hy => by
    obtain ⟨q, hq, rfl⟩ := enumL_get hd
    obtain ⟨v, hv, rv⟩ := (g.repPs ds xs r).get hq
    obtain ⟨T, y, rfl, hT, rfl, f⟩ := hy
    cases (f xs (sq c1 _ _ g)).symm.trans hv
    exact ⟨c1, w.grow hT _, w.fresh hT _, T, _, rfl, .of upd_same, _, _, rfl, rfl, _, _, rfl, (w.grow hT _).repP q _ rv, rfl⟩
  stop := fun c1 n1 H1 g => ⟨xs, sq c1 n1 H1 g, by rw [enumL_len, r.len]⟩
end
def enumS (as : List D) (st : Sto) : R (List D) := match as with
  | [.p (.list ds)] => .ok ((enumL ds).map .p) st
  | [.p (.tuple ds)] => .ok ((enumL ds).map .p) st
  | [.sl ds] => .ok ((enumL ds).map .p) st
  | _ => .bad
section
variable [Tbs] {X : Cx} {W : WX} {a : Expr} {p pos tpos : Pos}
theorem i_enumS {elts : List Expr} {kk : Nat} {fa : FA} (hm : X.mg "enumerate" = none) (ha : PA X [a] (rdA X W fa)) (hg : Gl X "enumerate" := by rfl) (hs : starEach [a] X.env = [(false, eval a X.env)] := by rfl) : PI X (.Tuple elts kk tpos) (.Call (.Name "enumerate" p) [a] [] pos) (rdI X W (fR enumS fa)) := by
  refine PI.by (pi_enumS hg hm ha hs) fun σ H Q ⟨c, env, st, er, w, hp⟩ => ⟨c, env, st, er, w, (Post.bind hp).mono fun xs H1 ⟨c1, st1, as, g1, w1, ra, hp1⟩ => ?_⟩
  unfold enumS at hp1
  split at hp1
  · obtain ⟨v, rfl, a, xs, rfl, sq, r⟩ := ds1 ra
    exact ⟨a, xs, rfl, .inl ⟨.of sq.2, hp1 c1 H1 _ .refl w1 (it_enum (fun c1 n1 H1 g1 => .of (g1.fzl sq).2) r)⟩⟩
  · obtain ⟨v, rfl, a, xs, rfl, sq, r⟩ := ds1 ra
    exact ⟨a, xs, rfl, .inr ⟨sq, hp1 c1 H1 _ .refl w1 (it_enumT (fun c1 n1 H1 g1 => g1.sqt sq) r)⟩⟩
  · obtain ⟨v, rfl, a, xs, rfl, sq, r⟩ := ds1 ra
    exact ⟨a, xs, rfl, .inl ⟨sq.seq, hp1 c1 H1 _ .refl w1 (it_enum (fun c1 n1 H1 g1 => (g1.sll sq).seq) r)⟩⟩
  · exact hp1.elim
end
end MV

set_option Elab.async false
set_option linter.all false
set_option maxRecDepth 100000
set_option maxHeartbeats 1000000
namespace MV
open PySem PySem.Spec PyProof.Rows L2
/-! ## a tuple taken k times -/
theorem mul_same (l : Addr) (items : Array Value) (n : Nat) (dd : Option Addr) (sl : Array (Option Value)) (x : Int) (u : Tok) (c0 : (decide (x < -(2 ^ 63)) || decide (x ≥ 2 ^ 63)) = false) (c1 : (items.isEmpty || x == 1) = true) :
    Meets (Builtin.«tuple.__mul__» ⟨[.ref l, .int x u], []⟩) (fun _ R s => s.heap.get? l = some { cls := .type "tuple", dict := dd, data := .seq items n, slots := sl } ∧ R (.ok (.ret (.ref l))) s) :=
  .of_wp fun prog w A R s z => by
    obtain ⟨hp, gs, dn, tk, os⟩ := s
    obtain ⟨at_l, r⟩ := z
    have idx := AutoSeq1.idx_int
    wp_walk using wpAny_loadPart' at_l
    repeat (first
      | (refine wpAny_ite_false (decide_eq_false (by rw [c0]; exact Bool.false_ne_true)) ?_; wp_walk using wpAny_loadPart' at_l)
      | (refine wpAny_ite_true (decide_eq_true c1) ?_; wp_walk using wpAny_loadPart' at_l))
    exact ⟨_, rfl, r⟩
def rSameT (K : PySem.W.Frag) : R2 := fun x y H Q => ∃ l k xs, x = .ref l ∧ y = .int k ∧ SqT K H l xs ∧ (xs = [] ∨ k = 1) ∧ -1000 ≤ k ∧ k ≤ 1000 ∧ Q (.ref l) H
section
variable {X : Cx}
theorem op_sameT : OpR X (binaryOp .Mult) (rSameT X.K) := by
  intro pins s σ H x y v u Q I rx ry h
  obtain ⟨l, k, xs, rfl, rfl, hT, he, h1, h2, q⟩ := h
  cases rx
  obtain ⟨t, rfl⟩ := ry
  obtain ⟨its, r, ⟨⟨cls, dd, data, sl⟩, ho, hc, n, hd⟩, hs⟩ := I.tuple hT
  cases (show cls = .type "tuple" from hc)
  cases (show data = .seq its.toArray n from hd)
  have c1 : (its.toArray.isEmpty || k == 1) = true := by
    rcases he with rfl | rfl
    · cases its with
      | nil => rfl
      | cons a b => exact absurd r.length (by simp)
    · rw [beq_self_eq_true, Bool.or_true]
  have c0 : (decide (k < -(2 ^ 63)) || decide (k ≥ 2 ^ 63)) = false := by
    rw [decide_eq_false (by omega), decide_eq_false (by omega)]
    rfl
  refine wpAny_binaryOp_repeat_ref (T := "tuple") (U := "int") (by decide) ⟨_, ho, rfl⟩ (fun s' => typeIs_int s' k t) noFill_tuple_mul F.fills_int_mul F.slot_int_rmul repeat_tuple F.slot_int_index.lookup
    (call_meets F.slot_int_rmul (typeIs_int s k t) F.entry_int_rmul (F.args_int_rmul_2 _ _) (int_rmul_tuple k t l its.toArray n dd sl)
      ⟨ho, rfl, ⟨_, ho, rfl⟩, call_meets F.slot_tuple_mul ⟨_, ho, rfl⟩ F.entry_tuple_mul (F.args_tuple_mul_2 _ _) (mul_same l its.toArray n dd sl k t c0 c1) ⟨ho, ?_⟩⟩)
  exact ⟨.ref l, H, I, rfl, q⟩
end
section
variable [Tbs] {X : Cx} {W : WX}
def mulT (a b : D) (st : Sto) : R D := match a, b with
  | .p (.tuple ds), .p (.int k) =>
    if ds = [] ∨ k = 1 then if -1000 ≤ k ∧ k ≤ 1000 then .ok (.p (.tuple ds)) st else .bad
    else if (2 ≤ k ∧ k ≤ 1000) ∧ ds.length ≤ 1000 then .ok (.p (.tuple (List.replicate k.toNat ds).flatten)) st else .bad
  | _, _ => mulD a b st
theorem s_mulT : OpS X (binaryOp .Mult) mulT := by
  refine OpR.by (OpR.or (OpR.or op_mul op_rep) (OpR.or op_sameT op_repT)) ?_
  rintro x y H Q ⟨c, st, a, b, E, w, ra, rb, h⟩
  unfold mulT at h
  split at h
  · rename_i ds k
    obtain ⟨p, xs, rfl, sp, rp⟩ := ra
    cases rb
    split at h
    · rename_i e
      obtain ⟨hk, h⟩ := Post.when h
      refine .inr (.inl ⟨p, k, xs, rfl, rfl, sp, e.imp (fun z => List.eq_nil_of_length_eq_zero (by rw [← rp.len, z]; rfl)) id, hk.1, hk.2, h c H _ .refl w ⟨p, xs, rfl, sp, rp⟩⟩)
    · rename_i e
      obtain ⟨⟨⟨h1, h2⟩, h3⟩, h⟩ := Post.when h
      refine .inr (.inr ⟨p, k, xs, rfl, rfl, sp, fun z => e (.inl (List.eq_nil_of_length_eq_zero (by rw [rp.len, z]; rfl))), h1, h2, by rw [← rp.len]; exact h3, new_tup w (rp.rep k.toNat) h⟩)
  · unfold mulD at h
    split at h
    · rename_i i j _
      cases ra
      cases rb
      obtain ⟨hl, h⟩ := Post.when h
      exact .inl (.inl ⟨i, j, rfl, rfl, by unfold mulOk at hl; show _ ∨ _; omega, h c H _ .refl w rfl⟩)
    · rename_i ds k _
      obtain ⟨p, xs, rfl, sp, rp⟩ := ra
      cases rb
      obtain ⟨⟨⟨h1, h2⟩, h3⟩, h⟩ := Post.when h
      have : (lineN : Int) = 1000000 := rfl
      exact .inl (.inr ⟨p, k, xs, rfl, rfl, sp.2, by omega, by omega, line_le (by rw [← rp.len]; exact h3), new_lst w (rp.rep k.toNat) h⟩)
    · exact h.elim
/-- tuple(range(n)) -/
def trK (d : D) (s : Sto) : R D := match d with
  | .p (.int n) => if n ≤ lineN ∧ -lineN ≤ n then .ok (.p (.tuple (rngL 0 n.toNat))) s else .bad
  | _ => .bad
def fTr1 (fa : EF) : EF := fun env st => (fa env st).bind trK
theorem e_tr1 {a : Expr} {fa : EF} {p p2 pos pos2 : Pos} (hc : X.calm = true) (hm : X.mg "tuple" = none) (hr : X.mg "range" = none) (ha : PE X a (rdE X W fa)) (hg : Gl X "tuple" := by rfl) (hg2 : Gl X "range" := by rfl)
    (na : starEach [a] X.env = (false, eval a X.env) :: starEach [] X.env := by rfl) (nb : starEach [.Call (.Name "range" p2) [a] [] pos2] X.env = (false, eval (.Call (.Name "range" p2) [a] [] pos2) X.env) :: starEach [] X.env := by rfl) :
    PE X (.Call (.Name "tuple" p) [.Call (.Name "range" p2) [a] [] pos2] [] pos) (rdE X W (fTr1 fa)) :=
  PE.by (pe_tupRg hc hg hm (prg_1 hg2 hr ha na) nb) fun σ H Q ⟨c, env, st, er, w, hp⟩ => ⟨c, env, st, er, w, (Post.bind hp).mono fun x H1 ⟨c1, st1, d, g1, w1, rd, hp1⟩ => by
    unfold trK at hp1
    split at hp1
    · rename_i n
      obtain ⟨⟨lo, hi⟩, hp1⟩ := Post.when hp1
      cases rd
      have ln : (lineN : Int) = 1000000 := rfl
      exact ⟨n, rfl, ⟨by omega, by omega, by omega, by omega, by omega⟩, new_tup w1 (rep_rng n) hp1⟩
    · exact hp1.elim⟩
end
end MV

set_option Elab.async false
set_option linter.all false
set_option maxRecDepth 100000
set_option maxHeartbeats 1000000
namespace MV
open PySem PySem.Spec PyProof.Rows L2
variable [Tbs]
/-! ## sorted of a list or a tuple of whole numbers -/
def rSrtS (K : PySem.W.Frag) : List V → Hp → VK → Prop := fun vs H Q => ∃ (a : Addr) (ns : List Int), vs = [V.ref a] ∧ (SqL K H a (ns.map V.int) ∨ SqT K H a (ns.map V.int)) ∧
  ∀ (ms : List Int) (p : Addr), ms.Perm ns → ms.Pairwise (· ≤ ·) → H p = none → Q (.ref p) (upd H p (.lst (ms.map V.int)))
theorem cr_srtS {X : Cx} : CallR X (.builtin "sorted") (rSrtS X.K) := by
  rintro pins s σ H vs us Q I r ⟨a, ns, rfl, hs, q⟩
  obtain ⟨its, T, o, n, rv, hT, ho, hc, hd, hz⟩ : ∃ (its : List Value) (T : String) (o : Obj) (n : Nat), Vals (ns.map V.int) its ∧ (T = "list" ∨ T = "tuple") ∧ s.heap.get? a = some o ∧ o.cls = .type T ∧ o.data = .seq its.toArray n ∧ (ns.map V.int).length ≤ sizeLine := by
    rcases hs with hs | hs
    · obtain ⟨its, rv, p, hz⟩ := I.list hs
      obtain ⟨o, ho, hc, n, hd⟩ := p.isList
      exact ⟨its, "list", o, n, rv, .inl rfl, ho, hc, hd, hz⟩
    · obtain ⟨its, rv, ⟨o, ho, hc, n, hd⟩, hz⟩ := I.tuple hs
      exact ⟨its, "tuple", o, n, rv, .inr rfl, ho, hc, hd, hz⟩
  rw [Vals.ref1 r]
  have hi := rv.ints
  have hz2 : its.length ≤ sizeLine := by have := rv.length; omega
  refine Calls.call_function_entry kind_sorted plain_sorted entry_sorted (args_sorted1 _) (wpAny_bind (m := checkCount "sorted" 1 1 _) (wpAny_pure (wpAny_bind ?_)))
  refine wpAny_collect_seq a hT ho hc hd (fun h1 keep => ?_) (by rw [List.size_toArray]; exact hz2)
  have ea : its.toArray.toList = its := by simp
  rw [ea]
  refine wpAny_bind (wpAny_newList ?_ hz2)
  let h2 : Heap := h1.push (seqObj "list" its.toArray 0)
  have hob : h2.get? h1.objs.size = some (seqObj "list" its.toArray 0) := Heap.get?_push_size _ rfl
  have k2 : ∀ b u, s.heap.get? b = some u → h2.get? b = some u := fun b u e => Heap.get?_push_of_some _ (keep b u e)
  have I1 : Inv X pins σ H { s with heap := h1 } := I.kept (t' := s.toks) keep
  refine wpAny_bind (wpAny_holding (wpAny_call_entry slot_list_sort ⟨_, hob, rfl⟩ entry_list_sort (SrtO.list_sort_ord SrtO.swo_int hob hz2 (fun h => SrtO.ints_sortable hi h) fun out a1 a2 => ⟨.none, rfl, ?_⟩) (args_list_sort _)))
  refine wpAny_pure ⟨_, rfl, ?_⟩
  obtain ⟨b1, b2, b3⟩ := SrtO.ints_out hi a1 a2
  obtain ⟨ep, he⟩ := sortedHeap_at (vs := its) (out := out.toArray) hob
  have hq : ((out.map SrtO.iv).map V.int).length ≤ sizeLine := by
    have z := b2.length_eq
    rw [List.length_map] at z hz
    simpa [z] using hz
  have old : ∀ b u, h1.get? b = some u → (sortedHeap h2 h1.objs.size its out.toArray).get? b = some u := fun b u e => by
    have lt := Heap.lt_size e
    rw [sortedHeap_old (Nat.ne_of_lt lt) (Nat.lt_of_lt_of_le lt (by show _ ≤ (h1.push _).objs.size; simp [Heap.push]))]
    exact Heap.get?_push_of_some _ e
  refine ⟨.ref _, upd H h1.objs.size (.lst ((out.map SrtO.iv).map V.int)), I1.laid (t' := s.toks) old (Nat.le_refl _) ⟨hq, out, ep, vals_of_ints b1, he⟩, rfl, ?_⟩
  exact q _ _ b2 b3 (I1.hok.fresh (Nat.le_refl _))
def srtQ (ds : List PyData) (st : Sto) : R D := match intsOf ds with
  | some ns => .ok (.p (.list ((sortI ns).map .int))) st
  | none => .bad
def sortS (d : D) (st : Sto) : R D := match d with
  | .p (.tuple ds) => srtQ ds st
  | d => match dat st d with
    | some (.list ds) => srtQ ds st
    | _ => .bad
theorem s_sortS {X : Cx} : CallS X (.builtin "sorted") (arg1 sortS) := s_arg1 cr_srtS fun c st d E x H Q w r h => by
  have fin : ∀ (ds : List PyData) (p : Addr) (xs : List V), (SqL X.K H p xs ∨ SqT X.K H p xs) → RepPs X.K c.F H ds xs → Post X.K X.mg (rpD X.K) c st.length H E Q (srtQ ds st) → rSrtS X.K [.ref p] H Q := fun ds p xs sq rs h => by
    unfold srtQ at h
    split at h
    · rename_i ns e
      have ex := ints_rep e rs
      subst ex
      refine ⟨p, ns, rfl, sq, fun ms q h1 h2 hq => ?_⟩
      rw [sorted_eq (h1.trans (sortI_perm ns).symm) h2 (sortI_sorted ns)]
      exact new_lst w rep_ints h q hq
    · exact h.elim
  unfold sortS at h
  split at h
  · obtain ⟨p, xs, rfl, sq, rs⟩ := r
    exact fin _ p xs (.inr sq) rs h
  · split at h
    · rename_i h1
      obtain ⟨p, xs, rfl, sq, rs⟩ := Dp_list w r h1
      exact fin _ p xs (.inl sq) rs h
    · exact h.elim
end MV

set_option Elab.async false
set_option linter.all false
set_option maxRecDepth 100000
set_option maxHeartbeats 1000000
namespace MV
open PySem PySem.Spec PyProof.Rows L2
variable [Tbs]
/-! ## a list of two for clauses -/
def comp2L (t : TF) (ft : FT) (fi1 : FI) (vs1 : List Nat) (t1 : TF) (ft1 : FT) (fe : EF) (n : Nat) : List D → Ev → Sto → R Unit
  | [], _, st => .ok () st
  | d :: ds, env, st => match t d env with
    | none => .bad
    | some e1 => (ft e1 st).nox.bind fun b s => if b then (fi1 e1 s).nox.bind fun ds1 s1 => (compL t1 ft1 fe n ds1 (wipeE e1 vs1) s1).bind fun _ s2 => comp2L t ft fi1 vs1 t1 ft1 fe n ds env s2
      else comp2L t ft fi1 vs1 t1 ft1 fe n ds env s
/-- [elt for t in fi if ft for t1 in fi1 if ft1] -/
def fLc2 (m : Bool) (vs : List Nat) (fi : FI) (t : TF) (ft : FT) (fi1 : FI) (vs1 : List Nat) (t1 : TF) (ft1 : FT) (fe : EF) : EF := fun env st =>
  (fi env st).bind fun ds s => cutIf m s.length ((comp2L t ft fi1 vs1 t1 ft1 fe s.length ds (wipeE env vs) (s ++ [.lst []])).bind fun _ s' => .ok (.r s.length) s')
section
variable {X : Cx} {W : WX} {elt tg iter tg1 iter1 : Expr} {ifs ifs1 : List Expr} {scope : Scope} {own : List (Str × Nat)} {vs1 : List Nat} {pos spos py : Pos} {fi fi1 : FI} {t t1 : TF} {ws ws1 : List Nat} {ft ft1 : FT} {fe : EF} {m : Bool} {k : Nat}
theorem lc2_rd (hws : ∀ j ∈ ws, j ∈ own.map (·.2)) (hws1 : ∀ j ∈ ws1, j ∈ vs1) {σ : Sl} {H : Hp} {Q : VK} (h : rdE X W (fLc2 m (own.map (·.2)) fi t ft fi1 vs1 t1 ft1 fe) σ H Q) :
    tLc2 (rdI X W fi) (rdG X ws t) (rdT X W0 ft) (rdI X W0 fi1) (rdG X ws1 t1) (rdT X W0 ft1) (rdE X W0 fe) (own.map (·.2)) vs1 σ H Q := by
  obtain ⟨c, env, st, er, w, hp⟩ := h
  refine ⟨c, env, st, er, w, (Post.bind hp).mono fun J H1 ⟨c1, st1, ds, g1, w1, ok, q1⟩ D hD => ?_⟩
  have q1 := q1.cutIf
  have n1 : (st1 ++ [OB.lst []]).length = st1.length + 1 := by simp
  have gD := w1.growR hD (.lst [])
  have wD : Wd X.K X.mg (c1.plusR st1.length D) (upd H1 D (.lst [])) (st1 ++ [.lst []]) := w1.freshR hD ⟨[], upd_same, rfl⟩
  let more : Nat → Sto → R MV.D := fun i st2 => (comp2L t ft fi1 vs1 t1 ft1 fe st1.length (ds.drop i) (wipeE env (own.map (·.2))) st2).bind fun _ s' => .ok (.r st1.length) s'
  let on : Nat → Hp → Prop := fun i H' => ∃ c2 st2, Gr (c1.plusR st1.length D) (st1.length + 1) (upd H1 D (.lst [])) c2 st2.length H' ∧ Wd X.K X.mg c2 H' st2 ∧ st1.length < st2.length ∧
      Post X.K X.mg (rpD X.K) c2 st2.length H' (fun cls d H' => W cls d σ H') Q (more i st2)
  refine ⟨fun i m H' => m + i = ds.length ∧ on i H',
    ⟨ds.length, rfl, c1.plusR st1.length D, st1 ++ [.lst []], by rw [n1]; exact .refl, wD, by simp, by rw [n1]; exact q1.up gD⟩, fun i mm H' hW => ?_⟩
  obtain ⟨hm, c2, st2, g2, w2, le2, q2⟩ := hW
  have g12 : Gr c1 st1.length H1 c2 st2.length H' := gD.trans g2
  have er2 : EnvR X.K c2 st2.length H' (wipe σ (own.map (·.2))) (wipeE env (own.map (·.2))) := ((er.up g1).up g12).wipe _
  have adD : c2.ad st1.length = D := (g2.ad _ (by omega)).trans Cf.plusR_at
  by_cases hi : i < ds.length
  · refine .inr ⟨ok.go i c2 _ H' g12 hi, on (i + 1), fun H3 hN => ⟨mm - 1, by omega, by omega, hN⟩, fun x H3 hy => ?_⟩
    obtain ⟨c3, g3, w3, rx⟩ := ok.yld i _ c2 st2 H' x H3 g12 w2 (List.getElem?_eq_getElem hi) hy
    have q2 : Post X.K X.mg (rpD X.K) c2 st2.length H' (fun cls d H' => W cls d σ H') Q ((comp2L t ft fi1 vs1 t1 ft1 fe st1.length (ds.drop i) (wipeE env (own.map (·.2))) st2).bind fun _ s' => .ok (.r st1.length) s') := q2
    rw [List.drop_eq_getElem_cons hi] at q2
    unfold comp2L at q2
    cases ht : t ds[i] (wipeE env (own.map (·.2))) with
    | none => rw [ht] at q2; exact q2.elim
    | some e1 =>
      simp only [ht] at q2
      refine ⟨c3, st2.length, _, ds[i], e1, er2.up g3, rx, ht, fun σ4 er4 ⟨l4, s4⟩ => ⟨(wipe_eq l4 s4 hws).trans wipe_wipe, ?_⟩⟩
      have q2 := q2.up g3
      refine ⟨c3, e1, st2, er4, w3, ?_⟩
      cases hft : ft e1 st2 with
      | bad => rw [hft] at q2; exact q2.elim
      | exc _ _ _ => rw [hft] at q2; exact q2.elim
      | ok b s =>
        rw [hft] at q2
        intro c4 H4 b' g4 w4 eb
        subst eb
        have q4 := q2.up g4
        have gt4 := (g2.trans g3).trans g4
        have ls : st1.length < s.length := Nat.lt_of_lt_of_le (Nat.lt_succ_self _) gt4.le
        cases b with
        | false => exact ⟨c4, s, gt4, w4, ls, q4⟩
        | true =>
          have er44 := er4.up g4
          refine ⟨c4, e1, s, er44, w4, ?_⟩
          have q4 : Post X.K X.mg (rpD X.K) c4 s.length H4 (fun cls d H' => W cls d σ H') Q (((fi1 e1 s).nox.bind fun ds1 s1 => (compL t1 ft1 fe st1.length ds1 (wipeE e1 vs1) s1).bind fun _ s2 => comp2L t ft fi1 vs1 t1 ft1 fe st1.length (ds.drop (i + 1)) (wipeE env (own.map (·.2))) s2).bind fun _ s' => .ok (.r st1.length) s') := q4
          cases hf1 : fi1 e1 s with
          | bad => rw [hf1] at q4; exact q4.elim
          | exc _ _ _ => rw [hf1] at q4; exact q4.elim
          | ok ds1 s1 =>
            rw [hf1] at q4
            intro c5 H5 J1 g5 w5 ok1
            have q5 := q4.up g5
            have gt5 := gt4.trans g5
            let in1 : Nat → Hp → Prop := fun j G => ∃ c6 st6, Gr c5 s1.length H5 c6 st6.length G ∧ Wd X.K X.mg c6 G st6 ∧
              Post X.K X.mg (rpD X.K) c6 st6.length G (fun cls d H' => W cls d σ H') Q (((compL t1 ft1 fe st1.length (ds1.drop j) (wipeE e1 vs1) st6).bind fun _ s2 => comp2L t ft fi1 vs1 t1 ft1 fe st1.length (ds.drop (i + 1)) (wipeE env (own.map (·.2))) s2).bind fun _ s' => .ok (.r st1.length) s')
            refine ⟨fun j kk G => kk + j = ds1.length ∧ in1 j G, ⟨ds1.length, rfl, c5, s1, .refl, w5, q5⟩, fun j kk G ⟨hk, c6, st6, g6, w6, q6⟩ => ?_⟩
            have gt6 := gt5.trans g6
            have ls6 : st1.length < st6.length := Nat.lt_of_lt_of_le (Nat.lt_succ_self _) gt6.le
            have er6 : EnvR X.K c6 st6.length G (wipe σ4 vs1) (wipeE e1 vs1) := ((er44.up g5).up g6).wipe _
            by_cases hj : j < ds1.length
            · refine .inr ⟨ok1.go j c6 _ G g6 hj, in1 (j + 1), fun G2 hN => ⟨kk - 1, by omega, by omega, hN⟩, fun x1 G2 hy1 => ?_⟩
              obtain ⟨c7, g7, w7, rx1⟩ := ok1.yld j _ c6 st6 G x1 G2 g6 w6 (List.getElem?_eq_getElem hj) hy1
              rw [List.drop_eq_getElem_cons hj] at q6
              unfold compL at q6
              cases ht1 : t1 ds1[j] (wipeE e1 vs1) with
              | none => rw [ht1] at q6; exact q6.elim
              | some e2 =>
                simp only [ht1] at q6
                refine ⟨c7, st6.length, _, ds1[j], e2, er6.up g7, rx1, ht1, fun σ8 er8 ⟨l8, s8⟩ => ⟨(wipe_eq l8 s8 hws1).trans wipe_wipe, ?_⟩⟩
                have q7 := q6.up g7
                refine ⟨c7, e2, st6, er8, w7, ?_⟩
                cases hf2 : ft1 e2 st6 with
                | bad => rw [hf2] at q7; exact q7.elim
                | exc _ _ _ => rw [hf2] at q7; exact q7.elim
                | ok b s7 =>
                  rw [hf2] at q7
                  intro c9 H9 b' g9 w9 eb
                  subst eb
                  have q9 := q7.up g9
                  have gt9 := (g6.trans g7).trans g9
                  cases b with
                  | false => exact ⟨c9, s7, gt9, w9, q9⟩
                  | true =>
                    refine ⟨c9, e2, s7, er8.up g9, w9, ?_⟩
                    have q9 : Post X.K X.mg (rpD X.K) c9 s7.length H9 (fun cls d H' => W cls d σ H') Q ((((fe e2 s7).nox.bind fun y s1 => match s1[st1.length]? with
                        | some (.lst acc) => if acc.length + 1 ≤ lineN then compL t1 ft1 fe st1.length (ds1.drop (j + 1)) (wipeE e1 vs1) (s1.set st1.length (.lst (acc ++ [y]))) else .bad
                        | _ => .bad).bind fun _ s2 => comp2L t ft fi1 vs1 t1 ft1 fe st1.length (ds.drop (i + 1)) (wipeE env (own.map (·.2))) s2).bind fun _ s' => .ok (.r st1.length) s') := q9
                    cases hfe : fe e2 s7 with
                    | bad => rw [hfe] at q9; exact q9.elim
                    | exc _ _ _ => rw [hfe] at q9; exact q9.elim
                    | ok y s10 =>
                      rw [hfe] at q9
                      intro c10 H10 v g10 w10 rv
                      have q10 := q9.up g10
                      have gt10 := gt9.trans g10
                      have gtA := gt5.trans gt10
                      have lsA : st1.length < s10.length := Nat.lt_of_lt_of_le (Nat.lt_succ_self _) gtA.le
                      have adA : c10.ad st1.length = D := (gtA.ad _ (by omega)).trans Cf.plusR_at
                      simp only [R.nox, R.bind] at q10
                      cases hx : s10[st1.length]? with
                      | none => rw [hx] at q10; exact q10.elim
                      | some o =>
                        rw [hx] at q10
                        cases o with
                        | lst acc =>
                          simp only at q10
                          by_cases hz : acc.length + 1 ≤ lineN
                          · rw [if_pos hz] at q10
                            obtain ⟨xs, hH, rs⟩ := w10.getL hx
                            obtain ⟨gB, wB⟩ := put_lst w10 lsA (rs.app (es := [y]) (ys := [v]) ⟨v, [], rfl, rv, rfl⟩)
                            rw [adA] at gB wB hH
                            refine ⟨xs, hH, ?_, c10, _, gt10.trans gB, wB, q10.up gB⟩
                            have := line_le hz
                            rw [← rs.len]
                            omega
                          · rw [if_neg hz] at q10
                            exact q10.elim
                        | _ => exact q10.elim
            · rw [List.drop_eq_nil_of_le (by omega)] at q6
              have e : j = ds1.length := by omega
              subst e
              exact .inl ⟨ok1.stop c6 _ G g6, c6, st6, gt6, w6, ls6, q6⟩
  · have e : i = ds.length := by omega
    subst e
    have q2 : Post X.K X.mg (rpD X.K) c2 st2.length H' (fun cls d H' => W cls d σ H') Q ((comp2L t ft fi1 vs1 t1 ft1 fe st1.length (ds.drop ds.length) (wipeE env (own.map (·.2))) st2).bind fun _ s' => .ok (.r st1.length) s') := q2
    rw [List.drop_eq_nil_of_le (Nat.le_refl _)] at q2
    exact .inl ⟨ok.stop c2 _ H' g12, q2 c2 H' _ .refl w2 ⟨le2, by rw [adD]⟩⟩
theorem e_lc2 {nb : Bool} (g : GX X k nb) (hi : PI X tg iter (rdI X W fi)) (ok : BlkOk X.N X.env.scope scope own) (hv : ∀ i ∈ vs1, i ∈ own.map (·.2)) (hws : ∀ j ∈ ws, j ∈ own.map (·.2)) (hws1 : ∀ j ∈ ws1, j ∈ vs1)
    (hg : ∀ (s : Shared) (H : Hp) (C : Addr) (cl : List (Str × Addr)) (fp : List Addr), PG (X.blk s H scope (compEnvC scope cl C X.env) fp) tg (rdG X ws t)) (ht : ∀ (s : Shared) (H : Hp) (C : Addr) (cl : List (Str × Addr)) (fp : List Addr), PTs (X.blk s H scope (compEnvC scope cl C X.env) fp) ifs (rdT X W0 ft))
    (hi1 : ∀ (s : Shared) (H : Hp) (C : Addr) (cl : List (Str × Addr)) (fp : List Addr), PI (X.blk s H scope (compEnvC scope cl C X.env) fp) tg1 iter1 (rdI X W0 fi1))
    (hg1 : ∀ (s : Shared) (H : Hp) (C : Addr) (cl : List (Str × Addr)) (fp : List Addr), PG (X.blk s H scope (compEnvC scope cl C X.env) fp) tg1 (rdG X ws1 t1)) (ht1 : ∀ (s : Shared) (H : Hp) (C : Addr) (cl : List (Str × Addr)) (fp : List Addr), PTs (X.blk s H scope (compEnvC scope cl C X.env) fp) ifs1 (rdT X W0 ft1))
    (he : ∀ (s : Shared) (H : Hp) (C : Addr) (cl : List (Str × Addr)) (fp : List Addr), PE (X.blk s H scope (compEnvC scope cl C X.env) fp) elt (rdE X W0 fe)) (hs : ∀ x, foldedSetIterable iter X.env x = pure x := by intro _; rfl) (hs1 : ∀ env x, foldedSetIterable iter1 env x = pure x := by intro _ _; rfl) :
    PE X (.ListComp elt [⟨tg, iter, ifs, 0⟩, ⟨tg1, iter1, ifs1, 0⟩] scope pos) (rdE X W (fLc2 m (own.map (·.2)) fi t ft fi1 vs1 t1 ft1 fe)) :=
  PE.by (pe_lc2 g.calm g.nd hi ok hv hg ht hi1 hg1 ht1 he hs hs1) fun σ H Q h => lc2_rd hws hws1 h
theorem c_lc2 {i : Nat} {y : Str} {nb : Bool} (g : GX X k nb) (hi : PI X tg iter (rdI X W fi)) (ok : BlkOk X.N X.env.scope scope own) (hv : ∀ i ∈ vs1, i ∈ own.map (·.2)) (hws : ∀ j ∈ ws, j ∈ own.map (·.2)) (hws1 : ∀ j ∈ ws1, j ∈ vs1)
    (hg : ∀ (s : Shared) (H : Hp) (C : Addr) (cl : List (Str × Addr)) (fp : List Addr), PG (X.blk s H scope (compEnvC scope cl C X.env) fp) tg (rdG X ws t)) (ht : ∀ (s : Shared) (H : Hp) (C : Addr) (cl : List (Str × Addr)) (fp : List Addr), PTs (X.blk s H scope (compEnvC scope cl C X.env) fp) ifs (rdT X W0 ft))
    (hi1 : ∀ (s : Shared) (H : Hp) (C : Addr) (cl : List (Str × Addr)) (fp : List Addr), PI (X.blk s H scope (compEnvC scope cl C X.env) fp) tg1 iter1 (rdI X W0 fi1))
    (hg1 : ∀ (s : Shared) (H : Hp) (C : Addr) (cl : List (Str × Addr)) (fp : List Addr), PG (X.blk s H scope (compEnvC scope cl C X.env) fp) tg1 (rdG X ws1 t1)) (ht1 : ∀ (s : Shared) (H : Hp) (C : Addr) (cl : List (Str × Addr)) (fp : List Addr), PTs (X.blk s H scope (compEnvC scope cl C X.env) fp) ifs1 (rdT X W0 ft1))
    (he : ∀ (s : Shared) (H : Hp) (C : Addr) (cl : List (Str × Addr)) (fp : List Addr), PE (X.blk s H scope (compEnvC scope cl C X.env) fp) elt (rdE X W0 fe)) (hy : X.N[i]? = some y := by rfl) (hyl : X.env.scope.names.lookup y = some .local := by rfl)
    (hsw : swapsWith (.ListComp elt [⟨tg, iter, ifs, 0⟩, ⟨tg1, iter1, ifs1, 0⟩] scope pos) (some (.Name y py)) spos.line X.env = pure true := by exact sw_true rfl rfl rfl (by decide +kernel)) (hs : ∀ x, foldedSetIterable iter X.env x = pure x := by intro _; rfl) (hs1 : ∀ env x, foldedSetIterable iter1 env x = pure x := by intro _ _; rfl) :
    PS X (.Assign [.Name y py] (.ListComp elt [⟨tg, iter, ifs, 0⟩, ⟨tg1, iter1, ifs1, 0⟩] scope pos) spos) (rdS X W (cAsg (gN i) (fLc2 m (own.map (·.2)) fi t ft fi1 vs1 t1 ft1 fe))) :=
  PS.by (ps_setLc2 g.calm g.nd hy hyl hsw hi ok hv hg ht hi1 hg1 ht1 he hs hs1) fun T σ H h => by
    obtain ⟨c, env, st, er, w, hp⟩ := rdS.go (rp := rpD X.K) (k := fun d env s => match gN i d env with | some env' => .nx env' s | none => .bad) h
    exact lc2_rd hws hws1 ⟨c, env, st, er, w, hp.mono fun x H1 ⟨c1, env1, st1, a, e1, w1, ra, q⟩ => q c1 H1 _ .refl w1 (e1.set i ra)⟩
end
end MV

set_option Elab.async false
set_option linter.all false
set_option maxRecDepth 100000
set_option maxHeartbeats 400000
namespace MV
open PySem PySem.Spec PyProof.Rows L2
variable [Tbs]
/-! ## x in a list or a tuple of data -/
def hasQ (neg : Bool) (d : PyData) (ds : List PyData) (st : Sto) : R D :=
  if SeqAt.shaped d = true ∧ SeqAt.shaped (.list ds) = true then .ok (.p (.bool (if neg then !ds.any (fun z => PyData.eqv z d) else ds.any fun z => PyData.eqv z d))) st else .bad
def inS (neg : Bool) (a b : D) (st : Sto) : R D := match dat st a, dat st b with
  | some d, some (.list ds) => hasQ neg d ds st
  | some d, some (.tuple ds) => hasQ neg d ds st
  | _, _ => .bad
section
variable {X : Cx}
def rHasT (K : PySem.W.Frag) (neg : Bool) : R2 := fun x y H Q => ∃ d ds, Dp K H x d ∧ Dp K H y (.tuple ds) ∧ SeqAt.shaped d = true ∧ SeqAt.shaped (.list ds) = true ∧ Q (.bl (if neg then !ds.any (fun z => PyData.eqv z d) else ds.any fun z => PyData.eqv z d)) H
theorem op_hasT (hu : X.A.units + 65 < cLine) : OpR X (compareOp .In) (rHasT X.K false) := by
  rintro pins s σ H x y v u Q I rx ry ⟨d, ds, hd, he, sd, se, q⟩
  obtain ⟨as, ra⟩ := Dp.reads I d x v hd rx
  obtain ⟨bs, rb⟩ := Dp.reads I (.tuple ds) y u he ry
  exact SeqAt.in_tuple_reads rb ra (SeqAt.canLay_of_shaped se) (SeqAt.canLay_of_shaped sd) (room_in_shaped sd hu) ⟨.bl _, H, I, rfl, q⟩
theorem op_hasNotT (hu : X.A.units + 65 < cLine) : OpR X (compareOp .NotIn) (rHasT X.K true) := by
  rintro pins s σ H x y v u Q I rx ry ⟨d, ds, hd, he, sd, se, q⟩
  obtain ⟨as, ra⟩ := Dp.reads I d x v hd rx
  obtain ⟨bs, rb⟩ := Dp.reads I (.tuple ds) y u he ry
  exact SeqAt.notIn_tuple_reads rb ra (SeqAt.canLay_of_shaped se) (SeqAt.canLay_of_shaped sd) (room_in_shaped sd hu) ⟨.bl _, H, I, rfl, q⟩
theorem inS_ok {c : Cf} {st : Sto} {a b : D} {E : XK} {neg : Bool} {x y : V} {H : Hp} {Q : VK} (w : Wd X.K X.mg c H st) (ra : RepD X.K c st.length H a x) (rb : RepD X.K c st.length H b y) (h : Post X.K X.mg (rpD X.K) c st.length H E Q (inS neg a b st)) :
    ∃ d ds, Dp X.K H x d ∧ (Dp X.K H y (.list ds) ∨ Dp X.K H y (.tuple ds)) ∧ SeqAt.shaped d = true ∧ SeqAt.shaped (.list ds) = true ∧ Q (.bl (if neg then !ds.any (fun z => PyData.eqv z d) else ds.any fun z => PyData.eqv z d)) H := by
  unfold inS at h
  split at h
  · rename_i d ds h1 h2
    obtain ⟨⟨s1, s2⟩, h⟩ := Post.when h
    exact ⟨d, ds, dat_rep w ra h1, .inl (dat_rep w rb h2), s1, s2, h c H _ .refl w rfl⟩
  · rename_i d ds h1 h2
    obtain ⟨⟨s1, s2⟩, h⟩ := Post.when h
    exact ⟨d, ds, dat_rep w ra h1, .inr (dat_rep w rb h2), s1, s2, h c H _ .refl w rfl⟩
  · exact h.elim
theorem s_inS (hu : X.A.units + 66 < cLine) : OpS X (compareOp .In) (inS false) := by
  refine OpR.by (OpR.or (op_inD (by omega)) (op_hasT (by omega))) ?_
  rintro x y H Q ⟨c, st, a, b, E, w, ra, rb, h⟩
  obtain ⟨d, ds, h1, h2 | h2, h3, h4, h5⟩ := inS_ok w ra rb h
  · exact .inl ⟨d, ds, h1, h2, h3, h4, h5⟩
  · exact .inr ⟨d, ds, h1, h2, h3, h4, h5⟩
theorem s_ninS (hu : X.A.units + 66 < cLine) : OpS X (compareOp .NotIn) (inS true) := by
  refine OpR.by (OpR.or (op_notInD (by omega)) (op_hasNotT (by omega))) ?_
  rintro x y H Q ⟨c, st, a, b, E, w, ra, rb, h⟩
  obtain ⟨d, ds, h1, h2 | h2, h3, h4, h5⟩ := inS_ok w ra rb h
  · exact .inl ⟨d, ds, h1, h2, h3, h4, h5⟩
  · exact .inr ⟨d, ds, h1, h2, h3, h4, h5⟩
end
end MV

set_option Elab.async false
set_option linter.all false
set_option maxRecDepth 100000
set_option maxHeartbeats 1000000
namespace MV
open PySem PySem.Spec PyProof.Rows L2
variable [Tbs]
/-! ## dicts of the store, their keys whole numbers and texts -/
def keyD : D → Option Key
  | .p (.int i) => some (.inl i)
  | .p (.str x) => some (.inr x)
  | _ => none
def dctAt (st : Sto) : D → Option (Nat × List (Key × D))
  | .r i => match st[i]? with
    | some (.dct kvs) => some (i, kvs)
    | _ => none
  | _ => none
def valD (kvs : List (Key × D)) (k : Key) : Option D := (kvs.find? fun kv => decide (kv.1 = k)).map (·.2)
def setD (kvs : List (Key × D)) (k : Key) (d : D) : List (Key × D) :=
  if (kvs.any fun kv => decide (kv.1 = k)) = true then kvs.map (fun kv => if kv.1 = k then (kv.1, d) else kv) else kvs ++ [(k, d)]
section
variable {K : PySem.W.Frag} {mg : Str → Option Value} {c : Cf} {n : Nat} {H : Hp} {st : Sto}
omit [Tbs] in
theorem keyD_rep {d : D} {v : V} {k : Key} (h : keyD d = some k) (r : RepD K c n H d v) : v = kV k := by
  cases d with
  | p d =>
    cases d with
    | int i => cases h; cases r; rfl
    | str x => cases h; cases r; rfl
    | _ => cases h
  | _ => cases h
theorem dctAt_rep (w : Wd K mg c H st) {d : D} {v : V} {i : Nat} {kvs : List (Key × D)} (r : RepD K c st.length H d v) (h : dctAt st d = some (i, kvs)) :
    i < st.length ∧ v = .ref (c.ad i) ∧ ∃ xs, H (c.ad i) = some (.dK xs) ∧ RepKv K c st.length H kvs xs := by
  cases d with
  | p _ => cases h
  | sl _ => cases h
  | r j =>
    obtain ⟨hi, rfl⟩ := r
    simp only [dctAt] at h
    split at h
    · rename_i q hx
      cases h
      exact ⟨hi, rfl, w.getD hx⟩
    · cases h
omit [Tbs] in
theorem RepKv.val : ∀ {kvs : List (Key × D)} {xs : List (Key × V)}, RepKv K c n H kvs xs → ∀ k, (∀ d, valD kvs k = some d → ∃ v, valV xs k = some v ∧ RepD K c n H d v) ∧ (valD kvs k = none → valV xs k = none)
  | [], xs, r, k => by
    have e : xs = [] := r
    subst e
    exact ⟨fun d h => (by cases h), fun _ => rfl⟩
  | (k1, d1) :: kvs, xs, ⟨v1, r, e, h1, h2⟩, k => by
    subst e
    have ih := RepKv.val h2 k
    by_cases q : k1 = k
    · have e1 : valD ((k1, d1) :: kvs) k = some d1 := by simp [valD, List.find?_cons, q]
      have e2 : valV ((k1, v1) :: r) k = some v1 := by simp [valV, List.find?_cons, q]
      rw [e1, e2]
      exact ⟨fun d h => by cases h; exact ⟨v1, rfl, h1⟩, fun h => by cases h⟩
    · have e1 : valD ((k1, d1) :: kvs) k = valD kvs k := by simp [valD, List.find?_cons, q]
      have e2 : valV ((k1, v1) :: r) k = valV r k := by simp [valV, List.find?_cons, q]
      rw [e1, e2]
      exact ih
omit [Tbs] in
theorem RepKv.any : ∀ {kvs : List (Key × D)} {xs : List (Key × V)}, RepKv K c n H kvs xs → ∀ k, (kvs.any fun kv => decide (kv.1 = k)) = xs.any fun kv => decide (kv.1 = k)
  | [], xs, r, k => by
    have e : xs = [] := r
    subst e
    rfl
  | (k1, d1) :: kvs, xs, ⟨v1, r, e, h1, h2⟩, k => by
    subst e
    rw [List.any_cons, List.any_cons, RepKv.any h2 k]
omit [Tbs] in
theorem RepKv.repl {d : D} {v : V} (hd : RepD K c n H d v) (k : Key) : ∀ {kvs : List (Key × D)} {xs : List (Key × V)}, RepKv K c n H kvs xs → RepKv K c n H (kvs.map fun kv => if kv.1 = k then (kv.1, d) else kv) (xs.map fun kv => if kv.1 = k then (kv.1, v) else kv)
  | [], xs, r => by
    have e : xs = [] := r
    subst e
    rfl
  | (k1, d1) :: kvs, xs, ⟨v1, r, e, h1, h2⟩ => by
    subst e
    have ih := RepKv.repl hd k h2
    rw [List.map_cons, List.map_cons]
    by_cases q : k1 = k
    · simp only [q, if_true]
      exact ⟨v, _, rfl, hd, ih⟩
    · simp only [q, if_false]
      exact ⟨v1, _, rfl, h1, ih⟩
omit [Tbs] in
theorem RepKv.snoc {d : D} {v : V} (hd : RepD K c n H d v) (k : Key) : ∀ {kvs : List (Key × D)} {xs : List (Key × V)}, RepKv K c n H kvs xs → RepKv K c n H (kvs ++ [(k, d)]) (xs ++ [(k, v)])
  | [], xs, r => by
    have e : xs = [] := r
    subst e
    exact ⟨v, [], rfl, hd, rfl⟩
  | (k1, d1) :: kvs, xs, ⟨v1, r, e, h1, h2⟩ => by
    subst e
    exact ⟨v1, _, rfl, h1, RepKv.snoc hd k h2⟩
omit [Tbs] in
theorem RepKv.put {d : D} {v : V} (hd : RepD K c n H d v) (k : Key) {kvs : List (Key × D)} {xs : List (Key × V)} (r : RepKv K c n H kvs xs) : RepKv K c n H (setD kvs k d) (putK xs k v) := by
  unfold setD putK
  rw [← r.any k]
  split
  · exact r.repl hd k
  · exact r.snoc hd k
theorem put_dct (w : Wd K mg c H st) {i : Nat} (hi : i < st.length) {ds : List (Key × D)} {vs : List (Key × V)} (r : RepKv K c st.length H ds vs) : Gr c st.length H c (st.set i (.dct ds)).length (upd H (c.ad i) (.dK vs)) ∧ Wd K mg c (upd H (c.ad i) (.dK vs)) (st.set i (.dct ds)) := by
  rw [List.length_set]
  exact ⟨w.growW hi _, w.write hi ⟨vs, upd_same, (w.growW hi (.dK vs)).repKv r⟩⟩
end
section
variable {X : Cx} {W : WX} {e o i f : Expr} {pos pos' apos cpos : Pos} {fo fi fa : EF}
/-- {} -/
def fDct : EF := fun _ st => .ok (.r st.length) (st ++ [.dct []])
theorem e_dct : PE X (.Dict [] [] pos) (rdE X W fDct) :=
  PE.by pe_dnewK fun σ H Q ⟨c, env, st, er, w, hp⟩ => fun p hn => by
    have g := w.growR hn (.dK [])
    refine hp (c.plusR st.length p) _ _ ?_ (w.freshR hn ⟨[], upd_same, rfl⟩) ⟨by simp, by rw [Cf.plusR_at]⟩
    rw [List.length_append, List.length_singleton]
    exact g
def keepD (o i d : D) (st : Sto) : Option Sto := match dctAt st o, keyD i with
  | some (j, kvs), some k => if kvs.length + 1 ≤ lineN then some (st.set j (.dct (setD kvs k d))) else none
  | _, _ => none
/-- o[i] = a, o a dict -/
def cPutD (fo fi fa : EF) : SF := fun env st => (fa env st).go env fun d s => (fo env s).go env fun o s1 => (fi env s1).go env fun i s2 => match keepD o i d s2 with
  | some s3 => .nx env s3
  | none => .bad
theorem c_putD (hu : X.A.units + 66 < cLine) (he : PE X e (rdE X W fa)) (ho : PE X o (rdE X W fo)) (hi : PE X i (rdE X W fi)) (hs : swapsWith e (some (.Subscript o i pos')) pos.line X.env = pure false := by rfl) :
    PS X (.Assign [.Subscript o i pos'] e pos) (rdS X W (cPutD fo fi fa)) :=
  PS.by (ps_dput (by omega) ho hi he hs) fun T σ H h => by
    obtain ⟨c, env, st, er, w, hp⟩ := h
    refine ⟨c, env, st, er, w, (PostS.go (rp := rpD X.K) er hp).mono fun x H1 ⟨c1, st1, a, g1, w1, ra, q1⟩ => ?_⟩
    refine ⟨c1, env, st1, er.up g1, w1, (PostS.go (rp := rpD X.K) (er.up g1) q1).mono fun ov H2 ⟨c2, st2, o', g2, w2, ro, q2⟩ => ?_⟩
    refine ⟨c2, env, st2, (er.up g1).up g2, w2, (PostS.go (rp := rpD X.K) ((er.up g1).up g2) q2).mono fun iv H3 ⟨c3, st3, i', g3, w3, ri, q3⟩ => ?_⟩
    have ra := g3.repD (g2.repD ra)
    have ro := g3.repD ro
    have er := ((er.up g1).up g2).up g3
    cases hk : keepD o' i' a st3 with
    | none => rw [hk] at q3; exact q3.elim
    | some s4 =>
      rw [hk] at q3
      unfold keepD at hk
      split at hk
      · rename_i j kvs k h1 h2
        obtain ⟨hi, rfl, xs, hH, rs⟩ := dctAt_rep w3 ro h1
        have ek := keyD_rep h2 ri
        subst ek
        by_cases hl : kvs.length + 1 ≤ lineN
        · rw [if_pos hl] at hk
          cases hk
          have lx : xs.length < sizeLine := by
            have := line_le hl
            rw [← rs.len]
            omega
          obtain ⟨g4, w4⟩ := put_dct w3 hi (rs.put ra k)
          exact ⟨_, _, rfl, .k hH lx, q3 c3 _ _ g4 w4 (er.up g4)⟩
        · rw [if_neg hl] at hk
          cases hk
      · cases hk
/-- o.get(k, x) -/
def getD2 (o k x : D) (st : Sto) : R D := match dctAt st o, keyD k with
  | some (_, kvs), some y => .ok ((valD kvs y).getD x) st
  | _, _ => .bad
def isDct (st : Sto) (o : D) : Bool := (dctAt st o).isSome
def fGet2 (fo fk fx : EF) : EF := fun env st => (fo env st).bind fun o s => if isDct s o then (fk env s).bind fun k s1 => (fx env s1).bind fun x s2 => getD2 o k x s2 else .bad
theorem e_get2 {fk fx : EF} (hu : X.A.units + 66 < cLine) (ho : PE X o (rdE X W fo)) (he : PE X e (rdE X W fk)) (hf : PE X f (rdE X W fx)) (m : M2 X o "get" apos e f cpos := by exact ⟨rfl, rfl, rfl, rfl⟩) :
    PE X (.Call (.Attribute o "get" apos) [e, f] [] cpos) (rdE X W (fGet2 fo fk fx)) :=
  PE.by (pe_dget2 (by omega) ho he hf m) fun σ H Q ⟨c, env, st, er, w, hp⟩ => ⟨c, env, st, er, w, (Post.bind hp).mono fun ov H1 ⟨c1, st1, o', g1, w1, ro, q1⟩ => by
    have q1 : Post X.K X.mg (rpD X.K) c1 st1.length H1 (fun cls d H' => W cls d σ H') Q (if isDct st1 o' then (fk env st1).bind fun k s1 => (fx env s1).bind fun x s2 => getD2 o' k x s2 else .bad) := q1
    by_cases hd : isDct st1 o' = true
    · rw [if_pos hd] at q1
      obtain ⟨⟨j, kvs⟩, hk⟩ := Option.isSome_iff_exists.mp hd
      obtain ⟨hi, rfl, xs, hH, rs⟩ := dctAt_rep w1 ro hk
      refine ⟨c1.ad j, rfl, .inl ⟨xs, .inl hH⟩, c1, env, st1, er.up g1, w1, (Post.bind q1).mono fun kv H2 ⟨c2, st2, k', g2, w2, rk, q2⟩ => ?_⟩
      refine ⟨c2, env, st2, (er.up g1).up g2, w2, (Post.bind q2).mono fun xv H3 ⟨c3, st3, x', g3, w3, rx, q3⟩ => ?_⟩
      have ro := g3.repD (g2.repD ro)
      have rk := g3.repD rk
      have q3 : Post X.K X.mg (rpD X.K) c3 st3.length H3 (fun cls d H' => W cls d σ H') Q (getD2 o' k' x' st3) := q3
      unfold getD2 at q3
      split at q3
      · rename_i j3 kvs3 y h1 h2
        obtain ⟨hi3, ej, xs3, hH3, rs3⟩ := dctAt_rep w3 ro h1
        have ek := keyD_rep h2 rk
        subst ek
        rw [V.ref.inj ej]
        refine ⟨_, .k hH3, ?_⟩
        obtain ⟨v1, v2⟩ := rs3.val y
        cases hv : valD kvs3 y with
        | none =>
          rw [hv] at q3
          rw [v2 hv]
          exact q3 c3 H3 _ .refl w3 rx
        | some d =>
          rw [hv] at q3
          obtain ⟨v, hv2, rv⟩ := v1 d hv
          rw [hv2]
          exact q3 c3 H3 _ .refl w3 rv
      · exact q3.elim
    · rw [if_neg hd] at q1
      exact q1.elim⟩
/-- o[k], o a dict that has it -/
def atD (o k : D) (st : Sto) : R D := match dctAt st o, keyD k with
  | some (_, kvs), some y => match valD kvs y with
    | some d => .ok d st
    | none => .bad
  | _, _ => .bad
def fAtD (fo fk : EF) : EF := fun env st => (fo env st).bind fun o s => (fk env s).bind fun k s1 => atD o k s1
theorem e_atD {fk : EF} (hu : X.A.units + 66 < cLine) (ho : PE X o (rdE X W fo)) (hi : PE X i (rdE X W fk)) (hs : NoSl i := by intro _ _; rfl) : PE X (.Subscript o i pos) (rdE X W (fAtD fo fk)) :=
  PE.by (pe_dget (by omega) ho hi hs) fun σ H Q ⟨c, env, st, er, w, hp⟩ => ⟨c, env, st, er, w, (Post.bind hp).mono fun ov H1 ⟨c1, st1, o', g1, w1, ro, q1⟩ => ⟨c1, env, st1, er.up g1, w1, (Post.bind q1).mono fun kv H2 ⟨c2, st2, k', g2, w2, rk, q2⟩ => by
    have ro := g2.repD ro
    have q2 : Post X.K X.mg (rpD X.K) c2 st2.length H2 (fun cls d H' => W cls d σ H') Q (atD o' k' st2) := q2
    unfold atD at q2
    split at q2
    · rename_i j3 kvs3 y h1 h2
      obtain ⟨hi3, rfl, xs3, hH3, rs3⟩ := dctAt_rep w2 ro h1
      have ek := keyD_rep h2 rk
      subst ek
      cases hv : valD kvs3 y with
      | none => rw [hv] at q2; exact q2.elim
      | some d =>
        rw [hv] at q2
        obtain ⟨v, hv2, rv⟩ := (rs3.val y).1 d hv
        have dg := DGet.k (k := y) hH3
        rw [hv2] at dg
        exact ⟨_, v, rfl, dg, q2 c2 H2 _ .refl w2 rv⟩
    · exact q2.elim⟩⟩
end
end MV

set_option Elab.async false
set_option linter.all false
set_option maxRecDepth 100000
set_option maxHeartbeats 400000
namespace MV
open PySem
local instance : Tbs := ⟨[]⟩
/-! ## mirrors, reckoned -/
section
variable {α β : Type} {st : Sto} {env : Ev} {a b c : EF} {d : D}
@[simp] theorem bind_ok (a : α) (f : α → Sto → R β) : (R.ok a st).bind f = f a st := rfl
@[simp] theorem bind_exc (e : Str) (d : D) (f : α → Sto → R β) : (R.exc e d st : R α).bind f = .exc e d st := rfl
@[simp] theorem bind_bad (f : α → Sto → R β) : (R.bad : R α).bind f = .bad := rfl
@[simp] theorem go_ok (a : α) (f : α → Sto → RS) : (R.ok a st).go env f = f a st := rfl
@[simp] theorem go_exc (e : Str) (d : D) (f : α → Sto → RS) : (R.exc e d st : R α).go env f = .exc e d env st := rfl
@[simp] theorem go_bad (f : α → Sto → RS) : (R.bad : R α).go env f = .bad := rfl
@[simp] theorem nox_ok (a : α) : (R.ok a st).nox = .ok a st := rfl
@[simp] theorem fV_eq (i : Nat) : fV i env st = match env[i]? with | some (some d) => .ok d st | _ => .bad := rfl
@[simp] theorem fK_eq (d : PyData) : fK d env st = .ok (.p d) st := rfl
@[simp] theorem fB_eq (g : D → D → Sto → R D) : fB g a b env st = (a env st).bind fun x s1 => (b env s1).bind fun y s2 => g x y s2 := rfl
@[simp] theorem fU_eq (g : D → Sto → R D) : fU g a env st = (a env st).bind g := rfl
@[simp] theorem fCh_eq (g g' : D → D → Sto → R D) : fCh g g' a b c env st = (a env st).bind fun x s1 => (b env s1).bind fun y s2 => (g x y s2).bind fun z s3 => match z with
  | .p (.bool true) => (c env s3).bind fun c s4 => g' y c s4
  | .p (.bool false) => .ok (.p (.bool false)) s3
  | _ => .bad := rfl
@[simp] theorem fChT_eq (g g' : D → D → Sto → R D) : fChT g g' a b c env st = (a env st).bind fun x s1 => (b env s1).bind fun y s2 => (g x y s2).bind fun z s3 => (boolD z s3).bind fun k s => if k then (c env s).bind fun z s4 => (g' y z s4).bind boolD else .ok false s := rfl
@[simp] theorem fBT_eq (g : D → D → Sto → R D) : fBT g a b env st = (a env st).bind fun x s1 => (b env s1).bind fun y s2 => (g x y s2).bind boolD := rfl
@[simp] theorem boolD_b (k : Bool) : boolD (.p (.bool k)) st = .ok k st := rfl
@[simp] theorem fT_eq : fT a env st = (a env st).bind truD := rfl
@[simp] theorem truD_b (k : Bool) : truD (.p (.bool k)) st = .ok k st := rfl
@[simp] theorem fNot_eq (f : FT) : fNot f env st = (f env st).bind fun b s => .ok (!b) s := rfl
@[simp] theorem fAnd_eq (f g : FT) : fAnd f g env st = (f env st).bind fun b s => if b then g env s else .ok false s := rfl
@[simp] theorem fOr_eq (f g : FT) : fOr f g env st = (f env st).bind fun b s => if b then .ok true s else g env s := rfl
@[simp] theorem fNotV_eq : fNotV a env st = (a env st).bind fun a s => (truD a s).bind fun k s => .ok (.p (.bool (!k))) s := rfl
@[simp] theorem fAndV_eq : fAndV a b env st = (a env st).bind fun a s => (truD a s).bind fun k s => if k then b env s else .ok a s := rfl
@[simp] theorem fOrV_eq : fOrV a b env st = (a env st).bind fun a s => (truD a s).bind fun k s => if k then .ok a s else b env s := rfl
@[simp] theorem fIf_eq (f : FT) : fIf f a b env st = (f env st).bind fun k s => if k then a env s else b env s := rfl
@[simp] theorem fNil_eq : fNil env st = .ok [] st := rfl
@[simp] theorem fCons_eq (r : FA) : fCons a r env st = (a env st).bind fun x s => (r env s).bind fun xs s' => .ok (x :: xs) s' := rfl
@[simp] theorem fTup_eq (r : FA) : fTup r env st = (r env st).bind mkTup := rfl
@[simp] theorem fLst_eq (r : FA) : fLst r env st = (r env st).bind mkLst := rfl
@[simp] theorem fRef_eq (r : FA) : fRef r env st = (r env st).bind mkRef := rfl
@[simp] theorem fC_eq (g : List D → Sto → R D) (r : FA) : fC g r env st = (r env st).bind g := rfl
@[simp] theorem fFn_eq (n : Nat) (m : List D → Sto → R D) (r : FA) : fFn n m r env st = (r env st).bind fun as s => if as.length = n then m as s else .bad := rfl
@[simp] theorem fM_eq (g : D → List D → Sto → R D) (r : FA) : fM g a r env st = (a env st).bind fun o s => if tyL s o = true then (r env s).bind fun as s' => g o as s' else .bad := rfl
@[simp] theorem fW_eq : fW a env st = (a env st).bind walkD := rfl
@[simp] theorem fR_eq (g : List D → Sto → R (List D)) (r : FA) : fR g r env st = (r env st).bind g := rfl
@[simp] theorem fNo_eq : fNo env st = .ok none st := rfl
@[simp] theorem fSo_i (i : Int) (h : a env st = .ok (.p (.int i)) st) : fSo a env st = .ok (some i) st := by simp [fSo, h]
@[simp] theorem arg1_eq (g : D → Sto → R D) : arg1 g [d] st = g d st := rfl
@[simp] theorem arg2_eq (g : D → D → Sto → R D) (e : D) : arg2 g [d, e] st = g d e st := rfl
/-! statements -/
@[simp] theorem cSeq_eq (f g : SF) : cSeq f g env st = match f env st with | .nx env' st' => g env' st' | r => r := rfl
@[simp] theorem cNx_eq : cNx env st = .nx env st := rfl
@[simp] theorem cBrk_eq : cBrk env st = .brk env st := rfl
@[simp] theorem cBad_eq : cBad env st = .bad := rfl
@[simp] theorem cRet_eq : cRet a env st = (a env st).go env fun d s => .ret d s := rfl
@[simp] theorem cExpr_eq : cExpr a env st = (a env st).go env fun _ s => .nx env s := rfl
@[simp] theorem cIf_eq (t : FT) (f g : SF) : cIf t f g env st = (t env st).go env fun b s => if b then f env s else g env s := rfl
@[simp] theorem cAsg_eq (t : TF) : cAsg t a env st = (a env st).go env fun d s => match t d env with | some env' => .nx env' s | none => .bad := rfl
@[simp] theorem cPar_eq (is : List Nat) (r : FA) : cPar is r env st = (r env st).go env fun ds s => if ds.length = is.length then .nx ((is.zip ds).foldl (fun e p => e.set p.1 (some p.2)) env) s else .bad := rfl
@[simp] theorem cPut_eq : cPut a b c env st = (c env st).go env fun d s => (a env s).go env fun o s1 => (b env s1).go env fun i s2 => match putIx o i d s2 with | some s3 => .nx env s3 | none => .bad := rfl
@[simp] theorem cFor_eq (fi : FI) (t : TF) (f : SF) : cFor fi t f env st = (fi env st).go env fun ds s => loopS t f ds env s := rfl
@[simp] theorem gN_eq (i : Nat) : gN i d env = some (env.set i (some d)) := rfl
@[simp] theorem gT_eq (is : List Nat) (ds : List PyData) : gT is (.p (.tuple ds)) env = setAll is ds env := rfl
@[simp] theorem setAll_nil : setAll [] [] env = some env := rfl
@[simp] theorem setAll_cons (i : Nat) (is : List Nat) (x : PyData) (ds : List PyData) : setAll (i :: is) (x :: ds) env = setAll is ds (env.set i (some (.p x))) := rfl
@[simp] theorem loopS_nil (t : TF) (f : SF) : loopS t f [] env st = .nx env st := rfl
/-! values -/
@[simp] theorem addD_i (i j : Int) : addD (.p (.int i)) (.p (.int j)) st = .ok (.p (.int (i + j))) st := rfl
@[simp] theorem subD_i (i j : Int) : subD (.p (.int i)) (.p (.int j)) st = .ok (.p (.int (i - j))) st := rfl
@[simp] theorem ltD_i (i j : Int) : ltD (.p (.int i)) (.p (.int j)) st = .ok (.p (.bool (decide (i < j)))) st := rfl
@[simp] theorem leD_i (i j : Int) : leD (.p (.int i)) (.p (.int j)) st = .ok (.p (.bool (decide (i ≤ j)))) st := rfl
@[simp] theorem gtD_i (i j : Int) : gtD (.p (.int i)) (.p (.int j)) st = .ok (.p (.bool (decide (j < i)))) st := rfl
@[simp] theorem geD_i (i j : Int) : geD (.p (.int i)) (.p (.int j)) st = .ok (.p (.bool (decide (j ≤ i)))) st := rfl
@[simp] theorem negD_i (i : Int) : negD (.p (.int i)) st = .ok (.p (.int (-i))) st := rfl
theorem mulD_i {i j : Int} (h : mulOk i j) : mulD (.p (.int i)) (.p (.int j)) st = .ok (.p (.int (i * j))) st := if_pos h
theorem divD_i {i j : Int} (h : divOk i j) : divD (.p (.int i)) (.p (.int j)) st = .ok (.p (.int (i / j))) st := if_pos h
theorem modD_i {i j : Int} (h : modOk i j) : modD (.p (.int i)) (.p (.int j)) st = .ok (.p (.int (i % j))) st := if_pos h
@[simp] theorem powD_10 : powD (.p (.int 10)) (.p (.int 18)) st = .ok (.p (.int 1000000000000000000)) st := by
  show (if powOk 10 18 then (R.ok (.p (.int (10 ^ (18 : Int).toNat))) st : R D) else .bad) = _
  rw [if_pos (by decide)]
  rfl
@[simp] theorem max2_i (i j : Int) : max2 (.p (.int i)) (.p (.int j)) st = .ok (.p (.int (max i j))) st := rfl
@[simp] theorem min2_i (i j : Int) : min2 (.p (.int i)) (.p (.int j)) st = .ok (.p (.int (min i j))) st := rfl
@[simp] theorem intOf_i (i : Int) : intOf (.p (.int i)) st = .ok (.p (.int i)) st := rfl
@[simp] theorem isi_eq (T : String) (d : D) : isiD T d st = if tyOf st d = "" then .bad else match L2.kitB (tyOf st d) T with | some b => .ok (.p (.bool b)) st | none => .bad := rfl
@[simp] theorem ty_none : tyOf st (.p .none) = "NoneType" := rfl
@[simp] theorem ty_bool (b : Bool) : tyOf st (.p (.bool b)) = "bool" := rfl
@[simp] theorem ty_int (b : Int) : tyOf st (.p (.int b)) = "int" := rfl
@[simp] theorem ty_str (b : Str) : tyOf st (.p (.str b)) = "str" := rfl
@[simp] theorem ty_list (b : List PyData) : tyOf st (.p (.list b)) = "list" := rfl
@[simp] theorem ty_tuple (b : List PyData) : tyOf st (.p (.tuple b)) = "tuple" := rfl
@[simp] theorem lenD_t (ds : List PyData) : lenD (.p (.tuple ds)) st = .ok (.p (.int ds.length)) st := by simp [lenD, itemsD]
@[simp] theorem lenD_l (ds : List PyData) : lenD (.p (.list ds)) st = .ok (.p (.int ds.length)) st := by simp [lenD, itemsD]
@[simp] theorem lenD_s (ds : List PyData) : lenD (.sl ds) st = .ok (.p (.int ds.length)) st := by simp [lenD, itemsD]
theorem ixD_t {ds : List PyData} {i : Nat} {x : PyData} (h : ds[i]? = some x) : ixD (.p (.tuple ds)) (.p (.int (i : Int))) st = .ok (.p x) st := by
  have e : L2.atI (ds.map D.p) (i : Int) = some (.p x) := L2.atI_nat (by rw [List.getElem?_map, h]; rfl)
  simp [ixD, itemsD, e]
theorem mkTup_eq {ps : List PyData} (h : ps.length ≤ lineN) : mkTup (ps.map .p) st = .ok (.p (.tuple ps)) st := by simp [mkTup, h]
theorem mkLst_eq {ps : List PyData} (h : ps.length ≤ lineN) : mkLst (ps.map .p) st = .ok (.p (.list ps)) st := by simp [mkLst, h]
end
/-! ### stores -/
abbrev CS (st : Sto) : Prop := cleanS st.length st = true
theorem fnM_ret {N : Nat} {f : SF} {ds : List D} {st st' : Sto} {x : PyData} (hc : CS st') (hl : st'.length = st.length) (h : f (startE N ds) st = .ret (.p x) st') : fnM false N f ds st = .ok (.p x) st' := by
  unfold fnM
  rw [h]
  show cutR st.length (.ok (.p x) st') = _
  simp only [cutR]
  rw [← hl, if_pos ⟨Nat.le_refl _, by rw [List.take_length]; exact hc⟩, List.take_length]
end MV

set_option Elab.async false
set_option linter.all false
set_option maxRecDepth 100000
set_option maxHeartbeats 400000
namespace MV
open PySem
local instance : Tbs := ⟨[]⟩
/-! ## loops and comprehensions, reckoned -/
theorem CS.app {st : Sto} (h : CS st) (ps : List PyData) : CS (st ++ [.lst (ps.map .p)]) := by
  show cleanS (st ++ [OB.lst (ps.map D.p)]).length (st ++ [OB.lst (ps.map D.p)]) = true
  unfold cleanS
  rw [List.all_append, Bool.and_eq_true]
  have hl : (st ++ [OB.lst (ps.map .p)]).length = st.length + 1 := by simp
  rw [hl]
  constructor
  · have h : st.all (belowO st.length) = true := h
    rw [List.all_eq_true] at h ⊢
    intro o ho
    have hm : ∀ d : D, belowD st.length d = true → belowD (st.length + 1) d = true := by
      intro d hd
      cases d with
      | r i =>
        have hd : decide (i < st.length) = true := hd
        rw [decide_eq_true_eq] at hd
        show decide (i < st.length + 1) = true
        rw [decide_eq_true_eq]
        omega
      | p _ => rfl
      | sl _ => rfl
    have ho := h o ho
    cases o with
    | lst ds =>
      have ho : ds.all (belowD st.length) = true := ho
      show ds.all (belowD (st.length + 1)) = true
      rw [List.all_eq_true] at ho ⊢
      exact fun d hd => hm d (ho d hd)
    | dct kvs =>
      have ho : (kvs.all fun p => belowD st.length p.2) = true := ho
      show (kvs.all fun p => belowD (st.length + 1) p.2) = true
      rw [List.all_eq_true] at ho ⊢
      exact fun d hd => hm _ (ho d hd)
    | ins _ fs =>
      have ho : (fs.all fun p => belowD st.length p.2) = true := ho
      show (fs.all fun p => belowD (st.length + 1) p.2) = true
      rw [List.all_eq_true] at ho ⊢
      exact fun d hd => hm _ (ho d hd)
  · show (belowO (st.length + 1) (.lst (ps.map .p)) && true) = true
    rw [Bool.and_true]
    show (ps.map D.p).all (belowD (st.length + 1)) = true
    rw [List.all_map, List.all_eq_true]
    intro x _
    rfl
/-- a for loop that keeps I -/
theorem loop_inv {t : TF} {f : SF} (I : Ev → Sto → Prop) : ∀ (L : List D), (∀ d ∈ L, ∀ env st, I env st → ∃ env1, t d env = some env1 ∧ ∃ env2 st2, f env1 st = .nx env2 st2 ∧ I env2 st2) →
    ∀ {env st}, I env st → ∃ env' st', loopS t f L env st = .nx env' st' ∧ I env' st'
  | [], _, env, st, h => ⟨env, st, rfl, h⟩
  | d :: L, hs, env, st, h => by
    obtain ⟨env1, e1, env2, st2, e2, h2⟩ := hs d (.head _) env st h
    obtain ⟨env', st', e', h'⟩ := loop_inv I L (fun d hd => hs d (.tail _ hd)) h2
    refine ⟨env', st', ?_, h'⟩
    unfold loopS
    simp only [e1, e2]
    exact e'
/-- a comprehension's steps: the store ahead of the list in hand, the list, what is left -/
theorem comp_inv {t : TF} {ft : FT} {fe : EF} {n : Nat} {env : Ev} (I : Sto → List D → List D → Prop) (hI : ∀ {s acc ds}, I s acc ds → s.length = n)
    (step : ∀ {d ds s acc}, I s acc (d :: ds) → ∃ e1, t d env = some e1 ∧ ∃ b s1, ft e1 (s ++ [.lst acc]) = .ok b (s1 ++ [.lst acc]) ∧
      ((b = false ∧ I s1 acc ds) ∨ (b = true ∧ acc.length + 1 ≤ lineN ∧ ∃ y s2, fe e1 (s1 ++ [.lst acc]) = .ok y (s2 ++ [.lst acc]) ∧ I s2 (acc ++ [y]) ds))) :
    ∀ (ds : List D) {s acc}, I s acc ds → ∃ s' acc', compL t ft fe n ds env (s ++ [.lst acc]) = .ok () (s' ++ [.lst acc']) ∧ I s' acc' []
  | [], s, acc, h => ⟨s, acc, rfl, h⟩
  | d :: ds, s, acc, h => by
    obtain ⟨e1, h1, b, s1, h2, h3⟩ := step h
    unfold compL
    simp only [h1, h2, nox_ok, bind_ok]
    rcases h3 with ⟨rfl, h3⟩ | ⟨rfl, hl, y, s2, h4, h5⟩
    · exact comp_inv I hI step ds h3
    · have hn : s2.length = n := hI h5
      have g : (s2 ++ [OB.lst acc])[n]? = some (.lst acc) := by rw [← hn]; simp
      have q : (s2 ++ [OB.lst acc]).set n (.lst (acc ++ [y])) = s2 ++ [.lst (acc ++ [y])] := by rw [← hn]; simp
      simp only [if_pos, h4, nox_ok, bind_ok, g, hl, q]
      exact comp_inv I hI step ds h5
/-- the whole comprehension, its list frozen -/
theorem comp_cut {t : TF} {ft : FT} {fe : EF} {vs : List Nat} {fi : FI} {env : Ev} {st st1 s' : Sto} {ds : List D} {ps : List PyData} (hi : fi env st = .ok ds st1)
    (h : compL t ft fe st1.length ds (wipeE env vs) (st1 ++ [.lst []]) = .ok () (s' ++ [.lst (ps.map .p)])) (hl : s'.length = st1.length) (hc : CS s') :
    fLc false vs fi t ft fe env st = .ok (.p (.list ps)) s' := by
  unfold fLc
  rw [hi, bind_ok, h, bind_ok]
  show cutR st1.length (.ok (.r st1.length) (s' ++ [.lst (ps.map .p)])) = _
  have g : (s' ++ [OB.lst (ps.map .p)])[st1.length]? = some (.lst (ps.map .p)) := by rw [← hl]; simp
  have tk : (s' ++ [OB.lst (ps.map .p)]).take st1.length = s' := by rw [← hl]; simp
  simp only [cutR, tk, g, allP_map]
  rw [if_pos ⟨by rw [List.length_append]; omega, by rw [← hl]; exact hc⟩, if_neg (Nat.lt_irrefl _)]
/-- a pure one -/
theorem comp_pure {t : TF} {ft : FT} {fe : EF} {vs : List Nat} {fi : FI} {env : Ev} {st : Sto} {xs : List PyData} (p : PyData → Bool) (g : PyData → PyData) (hi : fi env st = .ok (xs.map .p) st) (hc : CS st) (hl : xs.length ≤ lineN)
    (h : ∀ x ∈ xs, ∃ e1, t (.p x) (wipeE env vs) = some e1 ∧ ∀ s, CS s → ft e1 s = .ok (p x) s ∧ (p x = true → fe e1 s = .ok (.p (g x)) s)) :
    fLc false vs fi t ft fe env st = .ok (.p (.list ((xs.filter p).map g))) st := by
  obtain ⟨s', acc', e, hI, hd⟩ := comp_inv (t := t) (ft := ft) (fe := fe) (n := st.length) (env := wipeE env vs)
    (fun s acc ds => s = st ∧ ∃ us ws, xs = us ++ ws ∧ ds = ws.map .p ∧ acc = ((us.filter p).map g).map .p) (fun h => by rw [h.1]) (fun {d ds s acc} hI => by
      obtain ⟨rfl, us, ws, hx, hds, rfl⟩ := hI
      cases ws with
      | nil => cases hds
      | cons w ws =>
        cases hds
        obtain ⟨e1, h1, h2⟩ := h w (by rw [hx]; simp)
        obtain ⟨h3, h4⟩ := h2 _ (hc.app ((us.filter p).map g))
        refine ⟨e1, h1, p w, s, h3, ?_⟩
        cases hp : p w with
        | false => exact .inl ⟨rfl, rfl, us ++ [w], ws, by rw [hx]; simp, rfl, by simp [List.filter_append, hp]⟩
        | true =>
          refine .inr ⟨rfl, ?_, .p (g w), s, h4 hp, rfl, us ++ [w], ws, by rw [hx]; simp, rfl, by simp [List.filter_append, hp]⟩
          have : (us.filter p).length ≤ us.length := List.length_filter_le ..
          rw [hx] at hl
          simp at hl ⊢
          omega) (xs.map .p) (s := st) (acc := []) ⟨rfl, [], xs, rfl, rfl, rfl⟩
  subst hI
  obtain ⟨us, ws, hx, hw, rfl⟩ := hd
  have hw : ws = [] := by simpa using hw.symm
  subst hw
  rw [List.append_nil] at hx
  subst hx
  exact comp_cut hi e rfl hc
/-- without a condition -/
theorem comp_all {t : TF} {fe : EF} {vs : List Nat} {fi : FI} {env : Ev} {st : Sto} {xs : List PyData} (g : PyData → PyData) (hi : fi env st = .ok (xs.map .p) st) (hc : CS st) (hl : xs.length ≤ lineN)
    (h : ∀ x ∈ xs, ∃ e1, t (.p x) (wipeE env vs) = some e1 ∧ ∀ s, CS s → fe e1 s = .ok (.p (g x)) s) :
    fLc false vs fi t fYes fe env st = .ok (.p (.list (xs.map g))) st := by
  have := comp_pure (ft := fYes) (fun _ => true) g hi hc hl (fun x hx => by
    obtain ⟨e1, h1, h2⟩ := h x hx
    exact ⟨e1, h1, fun s hs => ⟨rfl, fun _ => h2 s hs⟩⟩)
  rwa [List.filter_eq_self.mpr (fun _ _ => rfl)] at this
theorem fnM_nx {N : Nat} {f : SF} {ds : List D} {st st' : Sto} {env : Ev} (hc : CS st') (hl : st'.length = st.length) (h : f (startE N ds) st = .nx env st') : fnM false N f ds st = .ok (.p .none) st' := by
  unfold fnM
  rw [h]
  show cutR st.length (.ok (.p .none) st') = _
  simp only [cutR]
  rw [← hl, if_pos ⟨Nat.le_refl _, by rw [List.take_length]; exact hc⟩, List.take_length]
/-! values -/
/-- f at 1 .. k -/
def js (k : Nat) (f : Int → Int) : List Int := (List.range k).map fun i : Nat => f (1 + i)
theorem js_len (k : Nat) (f : Int → Int) : (js k f).length = k := by simp [js]
theorem js_mem {k : Nat} {f : Int → Int} {y : Int} (h : y ∈ js k f) : ∃ j : Int, 1 ≤ j ∧ j ≤ k ∧ y = f j := by
  obtain ⟨i, hi, rfl⟩ := List.mem_map.mp h
  exact ⟨1 + i, by omega, by have := List.mem_range.mp hi; omega, rfl⟩
theorem js_in {k : Nat} {f : Int → Int} {j : Int} (h : 1 ≤ j) (h' : j ≤ k) : f j ∈ js k f :=
  List.mem_map.mpr ⟨(j - 1).toNat, List.mem_range.mpr (by omega), by rw [show (1 + ((j - 1).toNat : Int)) = j by omega]⟩
/-- a map over whole numbers, as one over data -/
def gI (f : Int → PyData) : PyData → PyData
  | .int j => f j
  | x => x
theorem rngL_gI (k : Nat) (f : Int → Int) : (rngL 1 k).map (gI fun j => .int (f j)) = (js k f).map .int := by
  simp [rngL, js, gI]
theorem enumL_js (k : Nat) (f : Int → Int) : enumL ((js k f).map .int) = (List.range k).map fun i : Nat => .tuple [.int i, .int (f (1 + i))] := by
  unfold enumL js
  apply List.ext_getElem
  · simp
  · intro i h1 h2
    simp
/-- a map over what enumerate gives of whole numbers -/
def gE (f : Int → Int → PyData) : PyData → PyData
  | .tuple [.int i, .int j] => f i j
  | x => x
theorem enumL_gE (k : Nat) (f : Int → Int) (h : Int → Int → Int) : (enumL ((js k f).map .int)).map (gE fun i j => .int (h i j)) = (js k fun j => h (j - 1) (f j)).map .int := by
  rw [enumL_js]
  unfold js
  rw [List.map_map, List.map_map]
  apply List.map_congr_left
  intro i _
  show PyData.int (h i (f (1 + i))) = PyData.int (h (1 + i - 1) (f (1 + i)))
  rw [show (1 + (i : Int) - 1) = i by omega]
theorem ix_first {k : Nat} {f : Int → Int} {st : Sto} (h : 1 ≤ k) : ixD (.p (.list ((js k f).map .int))) (.p (.int 0)) st = .ok (.p (.int (f 1))) st := by
  obtain ⟨k, rfl⟩ : ∃ m, k = m + 1 := ⟨k - 1, by omega⟩
  have e : L2.atI (((js (k + 1) f).map PyData.int).map D.p) ((0 : Nat) : Int) = some (.p (.int (f 1))) := L2.atI_nat (by simp [js])
  have e : L2.atI (((js (k + 1) f).map PyData.int).map D.p) 0 = some (.p (.int (f 1))) := e
  unfold ixD itemsD
  simp only [e]
theorem ix_js {k : Nat} {f : Int → Int} {st : Sto} {i : Int} (h : 0 ≤ i) (h' : i < k) : ixD (.p (.list ((js k f).map .int))) (.p (.int i)) st = .ok (.p (.int (f (1 + i)))) st := by
  have e : L2.atI (((js k f).map PyData.int).map D.p) (i.toNat : Int) = some (.p (.int (f (1 + i)))) := L2.atI_nat (by
    have : i.toNat < k := by omega
    simp [js, this]
    rw [show max i 0 = i by omega])
  rw [show (i.toNat : Int) = i by omega] at e
  unfold ixD itemsD
  simp only [e]
theorem ix_last {k : Nat} {f : Int → Int} {st : Sto} (h : 1 ≤ k) : ixD (.p (.list ((js k f).map .int))) (.p (.int (-1))) st = .ok (.p (.int (f k))) st := by
  have e : L2.atI (((js k f).map PyData.int).map D.p) (-1) = some (.p (.int (f k))) := by
    have hn : L2.ixN k (-1) = some (k - 1) := by
      unfold L2.ixN
      rw [if_neg (by omega), if_pos (by omega)]
      congr 1
      omega
    have hlen : (((js k f).map PyData.int).map D.p).length = k := by simp [js]
    unfold L2.atI
    rw [hlen, hn]
    have : k - 1 < k := by omega
    simp [js, this]
    congr 1
    omega
  unfold ixD itemsD
  simp only [e]
theorem eqD_i (neg : Bool) (i j : Int) (st : Sto) : eqD neg (.p (.int i)) (.p (.int j)) st = .ok (.p (.bool (if neg then !decide (i = j) else decide (i = j)))) st := by
  cases neg <;> simp [eqD, eqG, dat, SeqAt.shaped, PyData.canLay0, PyData.depth, PyData.eqv] <;> rfl
theorem ints_of : ∀ (is : List Int), intsOf (is.map .int) = some is
  | [] => rfl
  | i :: r => by
    show (intsOf (r.map .int)).map (i :: ·) = _
    rw [ints_of r]; rfl
theorem minOf_i {is : List Int} {m : Int} {st : Sto} (hm : m ∈ is) (h : ∀ y ∈ is, m ≤ y) : minOf (.p (.list (is.map .int))) st = .ok (.p (.int m)) st := by
  have hl : 0 < is.length := List.length_pos_of_mem hm
  obtain ⟨s1, s2⟩ := minL_spec hl
  have e : minL is = m := Int.le_antisymm (s2 m hm) (h _ s1)
  simp [minOf, listInts, dat, ints_of, hl, e]
theorem maxOf_i {is : List Int} {m : Int} {st : Sto} (hm : m ∈ is) (h : ∀ y ∈ is, y ≤ m) : maxOf (.p (.list (is.map .int))) st = .ok (.p (.int m)) st := by
  have hl : 0 < is.length := List.length_pos_of_mem hm
  obtain ⟨s1, s2⟩ := maxL_spec hl
  have e : maxL is = m := Int.le_antisymm (h _ s1) (s2 m hm)
  simp [maxOf, listInts, dat, ints_of, hl, e]
theorem rng2_i {i j : Int} (st : Sto) (h : -1000000 ≤ i ∧ i ≤ 1000000) (h' : -1000000 ≤ j ∧ j ≤ 1000000) : rng2 [.p (.int i), .p (.int j)] st = .ok ((rngL i (j - i).toNat).map .p) st := by
  have hl : (1000000 : Int) ≤ lineN := by decide
  exact if_pos (e := R.bad) ⟨⟨by omega, by omega⟩, by omega, by omega⟩
theorem rng1_i {j : Int} (st : Sto) (h' : -1000000 ≤ j ∧ j ≤ 1000000) : rng1 [.p (.int j)] st = .ok ((rngL 0 j.toNat).map .p) st := by
  have hl : (1000000 : Int) ≤ lineN := by decide
  exact if_pos (e := R.bad) ⟨by omega, by omega⟩
theorem rngL_len (i : Int) (n : Nat) : (rngL i n).length = n := by simp [rngL]
theorem rngL_mem {i : Int} {n : Nat} {x : PyData} (h : x ∈ rngL i n) : ∃ k : Nat, k < n ∧ x = .int (i + k) := by
  unfold rngL at h
  obtain ⟨k, hk, rfl⟩ := List.mem_map.mp h
  exact ⟨k, List.mem_range.mp hk, rfl⟩
end MV

set_option Elab.async false
set_option linter.all false
set_option maxRecDepth 100000
set_option maxHeartbeats 4000000
namespace MV
open PySem
def k_BOUNDS : PyData := (.tuple [(.tuple [(.int 1), (.int 40)]), (.tuple [(.int 1), (.int 6)]), (.tuple [(.int 1), (.int 60)]), (.tuple [(.int 1), (.int 10000)]), (.tuple [(.int 1), (.int 8)]), (.tuple [(.int 0), (.int 8)])])
def k_MOST_BLOCKS : PyData := (.int 60)
def b_law_pool : SF :=
  (cSeq (cAsg (gN 1) (fIf (fBT gtD (fC (arg1 lenD) (fCons (fV 0) fNil)) (fK (.int 0))) (fC (arg1 intOf) (fCons (fB ixD (fV 0) (fK (.int 0))) fNil)) (fK (.int 0))))
  (cSeq (cAsg (gN 2) (fIf (fBT geD (fV 1) (fK (.int 0))) (fB mulD (fK (.int 2)) (fV 1)) (fB subD (fU negD (fK (.int 1))) (fB mulD (fK (.int 2)) (fV 1)))))
  (cRet (fRef (fCons (fIf (fBT geD (fV 2) (fB powD (fK (.int 10)) (fK (.int 18)))) (fV 2) (fK (.int 0))) (fCons (fB addD (fB modD (fC (arg1 intOf) (fCons (fB addD (fB mulD (fV 2) (fK (.int 48271))) (fK (.int 1009))) fNil)) (fK (.int 2147483629))) (fK (.int 3))) (fCons (fC (arg1 (listOf true)) (fCons (fSl false (fV 0) (fSo (fK (.int 1))) fNo) fNil)) fNil)))))))
def m_law_pool : List D → Sto → R D := fnM true 3 b_law_pool
def b_is_tuple_of : SF :=
  (cRet (fAndV (fU (isiD "tuple") (fV 0)) (fCh leD leD (fV 1) (fC (arg1 lenD) (fCons (fV 0) fNil)) (fV 2))))
def m_is_tuple_of : List D → Sto → R D := fnM false 3 b_is_tuple_of
def b_is_number : SF :=
  (cRet (fAndV (fU (isiD "int") (fV 0)) (fNotV (fU (isiD "bool") (fV 0)))))
def m_is_number : List D → Sto → R D := fnM false 1 b_is_number
def b_is_between : SF :=
  (cRet (fAndV (fFn 1 m_is_number (fCons (fV 0) fNil)) (fCh leD leD (fV 1) (fV 0) (fV 2))))
def m_is_between : List D → Sto → R D := fnM false 3 b_is_between
def b_drawn_of : SF :=
  (cRet (fB mulD (fB ixD (fV 0) (fK (.int 1))) (fB ixD (fV 0) (fK (.int 4)))))
def m_drawn_of : List D → Sto → R D := fnM false 1 b_drawn_of
def b_blocks_of : SF :=
  (cRet (fB addD (fB mulD (fB ixD (fV 0) (fK (.int 0))) (fB ixD (fV 0) (fK (.int 1)))) (fB ixD (fV 0) (fK (.int 2)))))
def m_blocks_of : List D → Sto → R D := fnM false 1 b_blocks_of
def b_made_sizes : SF :=
  (cSeq (cIf (fNot (fT (fFn 3 m_is_tuple_of (fCons (fV 0) (fCons (fK (.int 6)) (fCons (fK (.int 6)) fNil)))))) (cRaise "BadSizes" (fCons (fU negD (fK (.int 1))) fNil)) cNx)
  (cSeq (cFor (fR rng1 (fCons (fK (.int 6)) fNil)) (gN 1) (cIf (fNot (fT (fFn 3 m_is_between (fCons (fB ixD (fV 0) (fV 1)) (fCons (fB ixD (fB ixD (fK k_BOUNDS) (fV 1)) (fK (.int 0))) (fCons (fB ixD (fB ixD (fK k_BOUNDS) (fV 1)) (fK (.int 1))) fNil)))))) (cRaise "BadSizes" (fCons (fV 1) fNil)) cNx))
  (cSeq (cIf (fBT gtD (fFn 1 m_drawn_of (fCons (fV 0) fNil)) (fB ixD (fV 0) (fK (.int 2)))) (cRaise "FewSpares" (fCons (fB subD (fFn 1 m_drawn_of (fCons (fV 0) fNil)) (fB ixD (fV 0) (fK (.int 2)))) fNil)) cNx)
  (cSeq (cAsg (gN 2) (fB mulD (fB ixD (fV 0) (fK (.int 4))) (fB addD (fB ixD (fV 0) (fK (.int 5))) (fK (.int 1)))))
  (cSeq (cIf (fBT gtD (fV 2) (fB ixD (fV 0) (fK (.int 0)))) (cRaise "FewRecords" (fCons (fB subD (fV 2) (fB ixD (fV 0) (fK (.int 0)))) fNil)) cNx)
  (cSeq (cIf (fBT gtD (fFn 1 m_blocks_of (fCons (fV 0) fNil)) (fK k_MOST_BLOCKS)) (cRaise "TooMany" (fCons (fFn 1 m_blocks_of (fCons (fV 0) fNil)) fNil)) cNx)
  (cRet (fV 0))))))))
def m_made_sizes : List D → Sto → R D := fnM false 3 b_made_sizes
def b_worth_of : SF :=
  (cSeq (cAsg (gN 5) (fB mulD (fV 1) (fV 3)))
  (cRet (fB addD (fB addD (fV 2) (fB mulD (fV 5) (fB addD (fV 4) (fK (.int 1))))) (fB mulD (fB subD (fV 1) (fK (.int 1))) (fC (arg2 min2) (fCons (fB subD (fV 2) (fV 5)) (fCons (fB subD (fV 0) (fB mulD (fV 3) (fB addD (fV 4) (fK (.int 1))))) fNil)))))))
def m_worth_of : List D → Sto → R D := fnM false 6 b_worth_of
def b_gains : SF :=
  (cSeq (cAsg (gT [1, 2, 3, 4, 5, 6]) (fFn 1 m_made_sizes (fCons (fV 0) fNil)))
  (cSeq (cAsg (gN 7) (fFn 5 m_worth_of (fCons (fV 1) (fCons (fV 2) (fCons (fV 3) (fCons (fV 5) (fCons (fV 6) fNil)))))))
  (cSeq (cAsg (gT [8, 9]) (fTup (fCons (fK .none) (fCons (fK .none) fNil))))
  (cSeq (cIf (fBT geD (fV 1) (fB mulD (fV 5) (fB addD (fV 6) (fK (.int 2))))) (cAsg (gN 8) (fB subD (fFn 5 m_worth_of (fCons (fV 1) (fCons (fV 2) (fCons (fV 3) (fCons (fV 5) (fCons (fB addD (fV 6) (fK (.int 1))) fNil)))))) (fV 7))) cNx)
  (cSeq (cIf (fBT geD (fB subD (fV 1) (fK (.int 1))) (fB mulD (fV 5) (fB addD (fV 6) (fK (.int 1))))) (cAsg (gN 9) (fB subD (fFn 5 m_worth_of (fCons (fB subD (fV 1) (fK (.int 1))) (fCons (fV 2) (fCons (fB addD (fV 3) (fV 2)) (fCons (fV 5) (fCons (fV 6) fNil)))))) (fV 7))) cNx)
  (cRet (fTup (fCons (fB subD (fFn 5 m_worth_of (fCons (fV 1) (fCons (fV 2) (fCons (fB addD (fV 3) (fK (.int 1))) (fCons (fV 5) (fCons (fV 6) fNil)))))) (fV 7)) (fCons (fB subD (fFn 5 m_worth_of (fCons (fB addD (fV 1) (fK (.int 1))) (fCons (fV 2) (fCons (fV 3) (fCons (fV 5) (fCons (fV 6) fNil)))))) (fV 7)) (fCons (fV 8) (fCons (fV 9) fNil)))))))))))
def m_gains : List D → Sto → R D := fnM false 10 b_gains
def b_most_usable : SF :=
  (cSeq (cAsg (gT [1, 2, 3, 4, 5, 6]) (fFn 1 m_made_sizes (fCons (fV 0) fNil)))
  (cRet (fFn 5 m_worth_of (fCons (fV 1) (fCons (fV 2) (fCons (fV 3) (fCons (fV 5) (fCons (fV 6) fNil))))))))
def m_most_usable : List D → Sto → R D := fnM false 7 b_most_usable
def b_is_sizes : SF :=
  (cRet (fLet refL (fFn 1 m_made_sizes (fCons (fV 0) fNil))))
def m_is_sizes : List D → Sto → R D := fnM false 1 b_is_sizes
def b_plain_usable : SF :=
  (cSeq (cAsg (gT [1, 2, 3, 4, 5, 6]) (fFn 1 m_made_sizes (fCons (fV 0) fNil)))
  (cRet (fB addD (fV 3) (fB mulD (fB mulD (fV 2) (fV 5)) (fB addD (fV 6) (fK (.int 1)))))))
def m_plain_usable : List D → Sto → R D := fnM false 7 b_plain_usable
def b_law_draw : SF :=
  (cSeq (cIf (fAnd (fBT (eqD false) (fB ixD (fV 0) (fK (.int 0))) (fK (.int 0))) (fBT (eqD true) (fB ixD (fV 0) (fK (.int 2))) (fLst fNil))) (cSeq (cAsg (gN 2) (fC (arg1 intOf) (fCons (fM popAt (fB ixD (fV 0) (fK (.int 2))) (fCons (fK (.int 0)) fNil)) fNil)))
  (cSeq (cAsg (gN 3) (fIf (fBT geD (fV 2) (fK (.int 0))) (fB mulD (fK (.int 2)) (fV 2)) (fB subD (fU negD (fK (.int 1))) (fB mulD (fK (.int 2)) (fV 2)))))
  (cSeq (cPut (fV 0) (fK (.int 0)) (fIf (fBT geD (fV 3) (fB powD (fK (.int 10)) (fK (.int 18)))) (fV 3) (fK (.int 0))))
  (cPut (fV 0) (fK (.int 1)) (fB addD (fB modD (fC (arg1 intOf) (fCons (fB addD (fB ixD (fV 0) (fK (.int 1))) (fB mulD (fV 3) (fK (.int 69621)))) fNil)) (fK (.int 2147483629))) (fK (.int 3))))))) cNx)
  (cSeq (cIf (fBT gtD (fB ixD (fV 0) (fK (.int 0))) (fK (.int 0))) (cSeq (cAsg (gN 4) (fB modD (fC (arg1 intOf) (fCons (fB ixD (fV 0) (fK (.int 0))) fNil)) (fV 1)))
  (cSeq (cPut (fV 0) (fK (.int 0)) (fB divD (fB ixD (fV 0) (fK (.int 0))) (fV 1)))
  (cRet (fV 4)))) cNx)
  (cSeq (cPut (fV 0) (fK (.int 1)) (fB modD (fC (arg1 intOf) (fCons (fB addD (fB mulD (fB ixD (fV 0) (fK (.int 1))) (fK (.int 48271))) (fK (.int 11))) fNil)) (fK (.int 2147483647))))
  (cRet (fB modD (fB divD (fB modD (fC (arg1 intOf) (fCons (fB mulD (fB ixD (fV 0) (fK (.int 1))) (fB ixD (fV 0) (fK (.int 1)))) fNil)) (fK (.int 2147483629))) (fK (.int 32))) (fV 1))))))
def m_law_draw : List D → Sto → R D := fnM false 5 b_law_draw
def b_law_pick : SF :=
  (cRet (fB ixD (fV 1) (fFn 2 m_law_draw (fCons (fV 0) (fCons (fC (arg1 lenD) (fCons (fV 1) fNil)) fNil)))))
def m_law_pick : List D → Sto → R D := fnM false 2 b_law_pick
def b_law_keep_great : SF :=
  (cSeq (cPar [1, 2, 3] (fCons (fB addD (fK (.int 1)) (fFn 2 m_law_draw (fCons (fV 0) (fCons (fK (.int 40)) fNil)))) (fCons (fB addD (fK (.int 1)) (fFn 2 m_law_draw (fCons (fV 0) (fCons (fK (.int 6)) fNil)))) (fCons (fB addD (fK (.int 1)) (fFn 2 m_law_draw (fCons (fV 0) (fCons (fK (.int 60)) fNil)))) fNil))))
  (cSeq (cPar [4, 5, 6] (fCons (fB addD (fK (.int 1)) (fFn 2 m_law_draw (fCons (fV 0) (fCons (fFn 2 m_law_pick (fCons (fV 0) (fCons (fLst (fCons (fK (.int 5)) (fCons (fK (.int 100)) (fCons (fK (.int 10000)) fNil)))) fNil))) fNil)))) (fCons (fB addD (fK (.int 1)) (fFn 2 m_law_draw (fCons (fV 0) (fCons (fK (.int 8)) fNil)))) (fCons (fFn 2 m_law_draw (fCons (fV 0) (fCons (fK (.int 9)) fNil))) fNil))))
  (cSeq (cFor (fR rng1 (fCons (fK (.int 200)) fNil)) (gN 7) (cIf (fOr (fBT gtD (fB mulD (fV 2) (fV 5)) (fV 3)) (fBT gtD (fB mulD (fV 5) (fB addD (fV 6) (fK (.int 1)))) (fV 1))) (cIf (fAnd (fBT gtD (fV 6) (fK (.int 0))) (fBT gtD (fB mulD (fV 5) (fB addD (fV 6) (fK (.int 1)))) (fV 1))) (cAsg (gN 6) (fB subD (fV 6) (fK (.int 1)))) (cIf (fBT gtD (fV 5) (fK (.int 1))) (cAsg (gN 5) (fB subD (fV 5) (fK (.int 1)))) (cAsg (gN 2) (fB subD (fV 2) (fK (.int 1)))))) (cIf (fBT gtD (fB addD (fB mulD (fV 1) (fV 2)) (fV 3)) (fK (.int 60))) (cIf (fAnd (fBT gtD (fV 3) (fB mulD (fV 2) (fV 5))) (fBT (eqD false) (fFn 2 m_law_draw (fCons (fV 0) (fCons (fK (.int 2)) fNil))) (fK (.int 0)))) (cAsg (gN 3) (fB subD (fV 3) (fK (.int 1)))) (cIf (fBT gtD (fV 1) (fB mulD (fV 5) (fB addD (fV 6) (fK (.int 1))))) (cAsg (gN 1) (fB subD (fV 1) (fK (.int 1)))) (cIf (fBT gtD (fV 3) (fB mulD (fV 2) (fV 5))) (cAsg (gN 3) (fB subD (fV 3) (fK (.int 1)))) (cIf (fBT gtD (fV 2) (fK (.int 1))) (cAsg (gN 2) (fB subD (fV 2) (fK (.int 1)))) (cAsg (gT [5, 6]) (fTup (fCons (fK (.int 1)) (fCons (fK (.int 0)) fNil)))))))) cBrk)))
  (cRet (fTup (fCons (fV 1) (fCons (fV 2) (fCons (fV 3) (fCons (fV 4) (fCons (fV 5) (fCons (fV 6) fNil)))))))))))
def m_law_keep_great : List D → Sto → R D := fnM false 8 b_law_keep_great
def b_law_stand_sizes : SF :=
  (cSeq (cPar [5, 6] (fCons (fFn 2 m_law_pick (fCons (fV 0) (fCons (fLst (fCons (fK (.int 1)) (fCons (fK (.int 1)) (fCons (fK (.int 1)) (fCons (fK (.int 1)) (fCons (fK (.int 2)) (fCons (fK (.int 2)) (fCons (fK (.int 3)) fNil)))))))) fNil))) (fCons (fFn 2 m_law_pick (fCons (fV 0) (fCons (fLst (fCons (fK (.int 0)) (fCons (fK (.int 0)) (fCons (fK (.int 0)) (fCons (fK (.int 0)) (fCons (fK (.int 1)) (fCons (fK (.int 1)) (fCons (fK (.int 1)) (fCons (fK (.int 2)) (fCons (fK (.int 2)) (fCons (fK (.int 3)) (fCons (fK (.int 4)) (fCons (fK (.int 8)) fNil))))))))))))) fNil))) fNil)))
  (cSeq (cAsg (gN 7) (fB addD (fK (.int 1)) (fFn 2 m_law_draw (fCons (fV 0) (fCons (fV 2) fNil)))))
  (cSeq (cAsg (gN 8) (fC (arg2 max2) (fCons (fB mulD (fV 5) (fB addD (fV 6) (fK (.int 1)))) (fCons (fB addD (fK (.int 1)) (fFn 2 m_law_draw (fCons (fV 0) (fCons (fV 1) fNil)))) fNil))))
  (cSeq (cAsg (gN 9) (fB addD (fB mulD (fV 7) (fV 5)) (fFn 2 m_law_pick (fCons (fV 0) (fCons (fLst (fCons (fK (.int 0)) (fCons (fK (.int 1)) (fCons (fK (.int 1)) (fCons (fK (.int 2)) (fCons (fK (.int 3)) (fCons (fK (.int 4)) (fCons (fFn 2 m_law_draw (fCons (fV 0) (fCons (fK (.int 9)) fNil))) fNil)))))))) fNil)))))
  (cSeq (cFor (fR rng1 (fCons (fK (.int 99)) fNil)) (gN 10) (cSeq (cIf (fBT leD (fB addD (fB mulD (fV 8) (fV 7)) (fV 9)) (fV 4)) cBrk cNx)
  (cIf (fBT gtD (fV 9) (fB mulD (fV 7) (fV 5))) (cAsg (gN 9) (fB subD (fV 9) (fK (.int 1)))) (cIf (fBT gtD (fV 8) (fB mulD (fV 5) (fB addD (fV 6) (fK (.int 1))))) (cAsg (gN 8) (fB subD (fV 8) (fK (.int 1)))) (cIf (fBT gtD (fV 6) (fK (.int 0))) (cAsg (gN 6) (fB subD (fV 6) (fK (.int 1)))) (cIf (fBT gtD (fV 5) (fK (.int 1))) (cAsg (gN 5) (fB subD (fV 5) (fK (.int 1)))) (cPar [7, 9] (fCons (fB subD (fV 7) (fK (.int 1))) (fCons (fB subD (fV 7) (fK (.int 1))) fNil)))))))))
  (cRet (fTup (fCons (fV 8) (fCons (fV 7) (fCons (fV 9) (fCons (fB addD (fK (.int 1)) (fFn 2 m_law_draw (fCons (fV 0) (fCons (fV 3) fNil)))) (fCons (fV 5) (fCons (fV 6) fNil)))))))))))))
def m_law_stand_sizes : List D → Sto → R D := fnM false 11 b_law_stand_sizes
def b_law_keep_sizes : SF :=
  (cRet (fIf (fBT (eqD false) (fFn 2 m_law_draw (fCons (fV 0) (fCons (fK (.int 3)) fNil))) (fK (.int 0))) (fFn 1 m_law_keep_great (fCons (fV 0) fNil)) (fFn 5 m_law_stand_sizes (fCons (fV 0) (fCons (fK (.int 6)) (fCons (fK (.int 3)) (fCons (fK (.int 5)) (fCons (fK (.int 16)) fNil))))))))
def m_law_keep_sizes : List D → Sto → R D := fnM false 1 b_law_keep_sizes
end MV

set_option Elab.async false
set_option linter.all false
set_option maxRecDepth 100000
set_option maxHeartbeats 400000
namespace MV
open PySem
local instance : Tbs := ⟨[]⟩
/-- right sizes -/
structure Sz (n a s w t d : Int) : Prop where
  n1 : 1 ≤ n
  n2 : n ≤ 40
  a1 : 1 ≤ a
  a2 : a ≤ 6
  s1 : 1 ≤ s
  s2 : s ≤ 60
  w1 : 1 ≤ w
  w2 : w ≤ 10000
  t1 : 1 ≤ t
  t2 : t ≤ 8
  d1 : 0 ≤ d
  d2 : d ≤ 8
  sp : a * t ≤ s
  re : t * (d + 1) ≤ n
  bl : n * a + s ≤ 60
abbrev szD (n a s w t d : Int) : PyData := .tuple [.int n, .int a, .int s, .int w, .int t, .int d]
theorem mok {i j : Int} (h : -1000000000 ≤ i) (h' : i ≤ 1000000000) : mulOk i j := by unfold mulOk; omega
theorem mok' {i j : Int} (h : -1000000000 ≤ j) (h' : j ≤ 1000000000) : mulOk i j := by unfold mulOk; omega
section
variable {n a s w t d : Int} {st : Sto}
theorem m_drawn_eq (hc : CS st) (h1 : 1 ≤ a) (h2 : a ≤ 6) : m_drawn_of [.p (szD n a s w t d)] st = .ok (.p (.int (a * t))) st :=
  fnM_ret hc rfl (by simp [b_drawn_of, startE, ixD, itemsD, L2.atI, L2.ixN, mulD_i (mok (i := a) (j := t) (by omega) (by omega))])
end
end MV

set_option Elab.async false
set_option linter.all false
set_option maxRecDepth 100000
set_option maxHeartbeats 1000000
namespace MV
open PySem
local instance : Tbs := ⟨[]⟩
/-! ## the pool of draws -/
def pl (x y : Int) (cs : List Int) : Sto := [.lst ((cs.map PyData.int).map .p), .lst [.p (.int x), .p (.int y), .r 0]]
theorem all_below (n : Nat) (ds : List PyData) : (ds.map D.p).all (belowD n) = true := by
  rw [List.all_map, List.all_eq_true]
  intro x _
  rfl
theorem pl_cs {x y : Int} {cs : List Int} {rest : Sto} (h : rest.all (belowO (rest.length + 2)) = true) : CS (pl x y cs ++ rest) := by
  show cleanS (pl x y cs ++ rest).length (pl x y cs ++ rest) = true
  unfold cleanS
  rw [List.all_append, Bool.and_eq_true]
  have hl : (pl x y cs ++ rest).length = rest.length + 2 := by simp [pl]
  rw [hl]
  refine ⟨?_, h⟩
  simp [pl, belowO, belowD]
theorem lay_ints (cs : List Int) : PyData.canLayAll0 (cs.map .int) = true := by
  induction cs with
  | nil => rfl
  | cons c r ih => simp [PyData.canLayAll0, PyData.canLay0, ih]
theorem depth_ints (cs : List Int) : PyData.depthAll (cs.map .int) = 0 := by
  induction cs with
  | nil => rfl
  | cons c r ih => simp [PyData.depthAll, PyData.depth, ih]
theorem shaped_ints (cs : List Int) : SeqAt.shaped (.list (cs.map .int)) = true := by
  simp [SeqAt.shaped, PyData.canLay0, PyData.depth, lay_ints cs, depth_ints cs]
theorem eqv_nil (c : Int) (cs : List Int) : PyData.eqv (.list ((c :: cs).map .int)) (.list []) = false := by simp [PyData.eqv, PyData.eqvAll]
theorem eqv_nil' : PyData.eqv (.list []) (.list []) = true := by simp [PyData.eqv, PyData.eqvAll]
section
variable {x y many : Int} {cs : List Int} {rest : Sto}
/-- what a draw leaves of the pool's first cell, its mixed number -/
def Drawn (m : List D → Sto → R D) (many : Int) (x y : Int) (cs : List Int) (rest : Sto) : Prop :=
  ∃ r x' y' cs', (0 ≤ r ∧ r < many) ∧ (0 ≤ x' ∧ 0 ≤ y') ∧ m [.r 1, .p (.int many)] (pl x y cs ++ rest) = .ok (.p (.int r)) (pl x' y' cs' ++ rest)
theorem startE2 (a b : D) : startE 5 [a, b] = [some a, some b, none, none, none] := rfl
/-- the second half of a draw -/
def tailDraw : SF :=
  (cSeq (cIf (fBT gtD (fB ixD (fV 0) (fK (.int 0))) (fK (.int 0))) (cSeq (cAsg (gN 4) (fB modD (fC (arg1 intOf) (fCons (fB ixD (fV 0) (fK (.int 0))) fNil)) (fV 1)))
  (cSeq (cPut (fV 0) (fK (.int 0)) (fB divD (fB ixD (fV 0) (fK (.int 0))) (fV 1)))
  (cRet (fV 4)))) cNx)
  (cSeq (cPut (fV 0) (fK (.int 1)) (fB modD (fC (arg1 intOf) (fCons (fB addD (fB mulD (fB ixD (fV 0) (fK (.int 1))) (fK (.int 48271))) (fK (.int 11))) fNil)) (fK (.int 2147483647))))
  (cRet (fB modD (fB divD (fB modD (fC (arg1 intOf) (fCons (fB mulD (fB ixD (fV 0) (fK (.int 1))) (fB ixD (fV 0) (fK (.int 1)))) fNil)) (fK (.int 2147483629))) (fK (.int 32))) (fV 1)))))
def headDraw : SF :=
  (cIf (fAnd (fBT (eqD false) (fB ixD (fV 0) (fK (.int 0))) (fK (.int 0))) (fBT (eqD true) (fB ixD (fV 0) (fK (.int 2))) (fLst fNil))) (cSeq (cAsg (gN 2) (fC (arg1 intOf) (fCons (fM popAt (fB ixD (fV 0) (fK (.int 2))) (fCons (fK (.int 0)) fNil)) fNil)))
  (cSeq (cAsg (gN 3) (fIf (fBT geD (fV 2) (fK (.int 0))) (fB mulD (fK (.int 2)) (fV 2)) (fB subD (fU negD (fK (.int 1))) (fB mulD (fK (.int 2)) (fV 2)))))
  (cSeq (cPut (fV 0) (fK (.int 0)) (fIf (fBT geD (fV 3) (fB powD (fK (.int 10)) (fK (.int 18)))) (fV 3) (fK (.int 0))))
  (cPut (fV 0) (fK (.int 1)) (fB addD (fB modD (fC (arg1 intOf) (fCons (fB addD (fB ixD (fV 0) (fK (.int 1))) (fB mulD (fV 3) (fK (.int 69621)))) fNil)) (fK (.int 2147483629))) (fK (.int 3))))))) cNx)
theorem b_draw_eq : b_law_draw = cSeq headDraw tailDraw := rfl
theorem tail_draw {e2 e3 e4 : Option D} (hm : 1 ≤ many) (hm2 : many ≤ 1000000000) (hx : 0 ≤ x) (hy : 0 ≤ y) :
    ∃ r x' y', (0 ≤ r ∧ r < many) ∧ (0 ≤ x' ∧ 0 ≤ y') ∧ tailDraw [some (.r 1), some (.p (.int many)), e2, e3, e4] (pl x y cs ++ rest) = .ret (.p (.int r)) (pl x' y' cs ++ rest) := by
  have md : modOk x many := by unfold modOk; omega
  have dv : divOk x many := by unfold divOk; omega
  rcases Int.lt_or_eq_of_le hx with h | h
  · refine ⟨x % many, x / many, y, ⟨Int.emod_nonneg _ (by omega), Int.emod_lt_of_pos _ (by omega)⟩, ⟨Int.ediv_nonneg (by omega) (by omega), hy⟩, ?_⟩
    simp [tailDraw, ixD, itemsD, L2.atI, L2.ixN, pl, h, modD_i md, divD_i dv, putIx, lstAt]
  · subst h
    let y' := (y * 48271 + 11) % 2147483647
    have hy' : 0 ≤ y' ∧ y' < 2147483647 := by omega
    refine ⟨y' * y' % 2147483629 / 32 % many, 0, y', ⟨Int.emod_nonneg _ (by omega), Int.emod_lt_of_pos _ (by omega)⟩, ⟨by omega, hy'.1⟩, ?_⟩
    have e1 : mulD (.p (.int y)) (.p (.int 48271)) (pl 0 y cs ++ rest) = .ok (.p (.int (y * 48271))) (pl 0 y cs ++ rest) := mulD_i (by unfold mulOk; omega)
    have e2 : modD (.p (.int (y * 48271 + 11))) (.p (.int 2147483647)) (pl 0 y cs ++ rest) = .ok (.p (.int y')) (pl 0 y cs ++ rest) := modD_i (by unfold modOk; omega)
    have e3 : mulD (.p (.int y')) (.p (.int y')) (pl 0 y' cs ++ rest) = .ok (.p (.int (y' * y'))) (pl 0 y' cs ++ rest) := mulD_i (by unfold mulOk; omega)
    have e4 : modD (.p (.int (y' * y'))) (.p (.int 2147483629)) (pl 0 y' cs ++ rest) = .ok (.p (.int (y' * y' % 2147483629))) (pl 0 y' cs ++ rest) := modD_i (by unfold modOk; omega)
    have e5 : divD (.p (.int (y' * y' % 2147483629))) (.p (.int 32)) (pl 0 y' cs ++ rest) = .ok (.p (.int (y' * y' % 2147483629 / 32))) (pl 0 y' cs ++ rest) := divD_i (by unfold divOk; omega)
    have e6 : modD (.p (.int (y' * y' % 2147483629 / 32))) (.p (.int many)) (pl 0 y' cs ++ rest) = .ok (.p (.int (y' * y' % 2147483629 / 32 % many))) (pl 0 y' cs ++ rest) := modD_i (by unfold modOk; omega)
    clear_value y'
    have g0 : (pl 0 y cs ++ rest)[1]? = some (.lst [.p (.int 0), .p (.int y), .r 0]) := rfl
    have g0' : (pl 0 y' cs ++ rest)[1]? = some (.lst [.p (.int 0), .p (.int y'), .r 0]) := rfl
    have g1 : (pl 0 y cs ++ rest).set 1 (.lst [.p (.int 0), .p (.int y'), .r 0]) = pl 0 y' cs ++ rest := rfl
    simp [tailDraw, ixD, itemsD, L2.atI, L2.ixN, g0, g0', g1, e1, e2, e3, e4, e5, e6, putIx, lstAt]
theorem head_draw {e2 e3 e4 : Option D} (hm : 1 ≤ many) (hx : 0 ≤ x) (hy : 0 ≤ y) :
    ∃ e2' e3' x' y' cs', (0 ≤ x' ∧ 0 ≤ y') ∧ headDraw [some (.r 1), some (.p (.int many)), e2, e3, e4] (pl x y cs ++ rest) = .nx [some (.r 1), some (.p (.int many)), e2', e3', e4] (pl x' y' cs' ++ rest) := by
  rcases Int.lt_or_eq_of_le hx with h | h
  · have h0 : ¬ x = 0 := by omega
    exact ⟨e2, e3, x, y, cs, ⟨hx, hy⟩, by simp [headDraw, ixD, itemsD, L2.atI, L2.ixN, pl, eqD, eqG, dat, h0, SeqAt.shaped, PyData.canLay0, PyData.depth, PyData.eqv]⟩
  · subst h
    cases cs with
    | nil => exact ⟨e2, e3, 0, y, [], ⟨hx, hy⟩, by simp [headDraw, ixD, itemsD, L2.atI, L2.ixN, pl, eqD, eqG, dat, SeqAt.shaped, PyData.canLay0, PyData.depth, PyData.eqv, allP, PyData.canLayAll0, PyData.depthAll, PyData.eqvAll, mkLst]⟩
    | cons c r =>
      let v3 : Int := if 0 ≤ c then 2 * c else -1 - 2 * c
      let x' : Int := if 1000000000000000000 ≤ v3 then v3 else 0
      have hx' : 0 ≤ x' := by show 0 ≤ (if 1000000000000000000 ≤ v3 then v3 else 0); split <;> omega
      let y' : Int := (y + v3 * 69621) % 2147483629 + 3
      have hy' : 0 ≤ y' := by show 0 ≤ _ % _ + _; omega
      refine ⟨some (.p (.int c)), some (.p (.int v3)), x', y', r, ⟨hx', hy'⟩, ?_⟩
      have d1 : dat (pl 0 y (c :: r) ++ rest) (.r 0) = some (.list ((c :: r).map .int)) := by
        show (allP (((c :: r).map PyData.int).map .p)).map PyData.list = _
        rw [allP_map]; rfl
      have q1 : eqD true (.r 0) (.p (.list [])) (pl 0 y (c :: r) ++ rest) = .ok (.p (.bool true)) (pl 0 y (c :: r) ++ rest) := by
        show eqG true _ _ _ = _
        unfold eqG
        rw [d1]
        show (if SeqAt.shaped (.list ((c :: r).map .int)) = true ∧ SeqAt.shaped (.list []) = true then R.ok (D.p (.bool (!PyData.eqv (.list ((c :: r).map .int)) (.list [])))) _ else .bad) = _
        rw [eqv_nil, if_pos ⟨shaped_ints _, rfl⟩]; rfl
      have q0 : eqD false (.p (.int 0)) (.p (.int 0)) (pl 0 y (c :: r) ++ rest) = .ok (.p (.bool true)) (pl 0 y (c :: r) ++ rest) := by
        simp [eqD, eqG, dat, SeqAt.shaped, PyData.canLay0, PyData.depth, PyData.eqv]
      have e1 : mulD (.p (.int 2)) (.p (.int c)) (pl 0 y r ++ rest) = .ok (.p (.int (2 * c))) (pl 0 y r ++ rest) := mulD_i (by unfold mulOk; omega)
      have e2 : mulD (.p (.int v3)) (.p (.int 69621)) (pl x' y r ++ rest) = .ok (.p (.int (v3 * 69621))) (pl x' y r ++ rest) := mulD_i (by unfold mulOk; omega)
      have e3 : modD (.p (.int (y + v3 * 69621))) (.p (.int 2147483629)) (pl x' y r ++ rest) = .ok (.p (.int ((y + v3 * 69621) % 2147483629))) (pl x' y r ++ rest) := modD_i (by unfold modOk; omega)
      have g0 : (pl 0 y (c :: r) ++ rest)[1]? = some (.lst [.p (.int 0), .p (.int y), .r 0]) := rfl
      have g2 : (pl 0 y r ++ rest)[1]? = some (.lst [.p (.int 0), .p (.int y), .r 0]) := rfl
      have g3 : (pl x' y r ++ rest)[1]? = some (.lst [.p (.int x'), .p (.int y), .r 0]) := rfl
      have s1 : popAt (.r 0) [.p (.int 0)] (pl 0 y (c :: r) ++ rest) = .ok (.p (.int c)) (pl 0 y r ++ rest) := by
        simp [popAt, lstAt, pl, L2.ixN]
      have t1 : tyL (pl 0 y (c :: r) ++ rest) (.r 0) = true := rfl
      have s2 : (pl 0 y r ++ rest).set 1 (.lst [.p (.int x'), .p (.int y), .r 0]) = pl x' y r ++ rest := rfl
      have s3 : (pl x' y r ++ rest).set 1 (.lst [.p (.int x'), .p (.int y'), .r 0]) = pl x' y' r ++ rest := rfl
      have hv : (if 0 ≤ c then R.ok (D.p (.int (2 * c))) (pl 0 y r ++ rest) else R.ok (D.p (.int (-1 - 2 * c))) (pl 0 y r ++ rest)) = R.ok (D.p (.int v3)) (pl 0 y r ++ rest) := by
        show _ = R.ok (D.p (.int (if 0 ≤ c then 2 * c else -1 - 2 * c))) _
        split <;> rfl
      have hx2 : (if 1000000000000000000 ≤ v3 then R.ok (D.p (.int v3)) (pl 0 y r ++ rest) else R.ok (D.p (.int 0)) (pl 0 y r ++ rest)) = R.ok (D.p (.int x')) (pl 0 y r ++ rest) := by
        show _ = R.ok (D.p (.int (if 1000000000000000000 ≤ v3 then v3 else 0))) _
        split <;> rfl
      have hyy : (y + v3 * 69621) % 2147483629 + 3 = y' := rfl
      clear_value y' x' v3
      simp [headDraw, ixD, itemsD, L2.atI, L2.ixN, g0, g2, g3, q0, q1, s1, s2, s3, t1, e1, e2, e3, hv, hx2, hyy, putIx, lstAt, mkLst]
theorem draw_ok (hc : rest.all (belowO (rest.length + 2)) = true) (hm : 1 ≤ many) (hm2 : many ≤ 1000000000) (hx : 0 ≤ x) (hy : 0 ≤ y) : Drawn m_law_draw many x y cs rest := by
  obtain ⟨e2', e3', x', y', cs', ⟨hx', hy'⟩, h1⟩ := head_draw (e2 := none) (e3 := none) (e4 := none) (cs := cs) (rest := rest) hm hx hy
  obtain ⟨r, x2, y2, hr, h2, h3⟩ := tail_draw (e2 := e2') (e3 := e3') (e4 := none) (cs := cs') (rest := rest) hm hm2 hx' hy'
  refine ⟨r, x2, y2, cs', hr, h2, fnM_ret (pl_cs hc) (by simp [pl]) ?_⟩
  rw [b_draw_eq, startE2, cSeq_eq, h1]
  exact h3
end
end MV

set_option Elab.async false
set_option linter.all false
set_option maxRecDepth 100000
set_option maxHeartbeats 1000000
namespace MV
open PySem
local instance : Tbs := ⟨[]⟩
/-- a store that is a pool of draws -/
def PS (rs st : Sto) : Prop := (∃ x y cs, (0 ≤ x ∧ 0 ≤ y) ∧ st = pl x y cs ++ rs) ∧ rs.all (belowO (rs.length + 2)) = true
variable {rs : Sto}
theorem PS.cs {st : Sto} (h : PS rs st) : CS st := by
  obtain ⟨⟨x, y, cs, _, rfl⟩, hc⟩ := h
  exact pl_cs hc
theorem PS.len {st : Sto} (h : PS rs st) : st.length = rs.length + 2 := by
  obtain ⟨⟨x, y, cs, _, rfl⟩, _⟩ := h
  simp [pl]
theorem PS.ll {s t : Sto} (h : PS rs s) (h' : PS rs t) : t.length = s.length := by rw [h.len, h'.len]
/-- more behind the pool -/
theorem PS.more {st : Sto} {ps : List PyData} (h : PS [] st) : PS [.lst (ps.map .p)] (st ++ [.lst (ps.map .p)]) := by
  obtain ⟨⟨x, y, cs, h1, rfl⟩, hc⟩ := h
  refine ⟨⟨x, y, cs, h1, by rw [List.append_nil]⟩, ?_⟩
  show (belowO _ (.lst (ps.map .p)) && true) = true
  rw [Bool.and_true]
  exact all_below _ ps
theorem PS.less {st : Sto} {o : OB} (h : PS [o] st) : ∃ s, st = s ++ [o] ∧ PS [] s := by
  obtain ⟨⟨x, y, cs, h1, rfl⟩, _⟩ := h
  exact ⟨pl x y cs, rfl, ⟨x, y, cs, h1, by rw [List.append_nil]⟩, rfl⟩
theorem draw_g {many : Int} {st : Sto} (h : PS rs st) (hm : 1 ≤ many) (hm2 : many ≤ 1000000000) : ∃ r s, m_law_draw [.r 1, .p (.int many)] st = .ok (.p (.int r)) s ∧ PS rs s ∧ 0 ≤ r ∧ r < many := by
  obtain ⟨⟨x, y, cs, ⟨hx, hy⟩, rfl⟩, hc⟩ := h
  obtain ⟨r, x', y', cs', hr, h', e⟩ := draw_ok (cs := cs) (rest := rs) hc hm hm2 hx hy
  exact ⟨r, _, e, ⟨⟨x', y', cs', h', rfl⟩, hc⟩, hr⟩
theorem pick_g {ps : List PyData} {st : Sto} (h : PS rs st) (hm : 1 ≤ ps.length) (hm2 : ps.length ≤ 1000000) : ∃ d s, m_law_pick [.r 1, .p (.list ps)] st = .ok (.p d) s ∧ PS rs s ∧ d ∈ ps := by
  obtain ⟨r, s, e, h', hr⟩ := draw_g (many := ps.length) h (by omega) (by omega)
  obtain ⟨i, rfl⟩ : ∃ i : Nat, r = i := ⟨r.toNat, by omega⟩
  have hi : i < ps.length := by omega
  have hx : ixD (.p (.list ps)) (.p (.int (i : Int))) s = .ok (.p ps[i]) s := by
    have e : L2.atI (ps.map D.p) (i : Int) = some (.p ps[i]) := L2.atI_nat (by rw [List.getElem?_map, List.getElem?_eq_getElem hi]; rfl)
    simp [ixD, itemsD, e]
  exact ⟨ps[i], s, fnM_ret h'.cs (h.ll h') (by simp [b_law_pick, startE, e, hx]), h', List.getElem_mem hi⟩
theorem cutG_ints (ns : List Int) (lo hi : Option Int) : ∃ cs : List Int, cutG (ns.map PyData.int) lo hi = cs.map .int := by
  unfold cutG
  exact ⟨_, by rw [← List.map_drop, ← List.map_take]⟩
theorem pool_eq (ns : List Int) : ∃ st, m_law_pool [.sl (ns.map .int)] [] = .ok (.r 1) st ∧ PS [] st := by
  have h0 : ∃ c : Int, (fIf (fBT gtD (fC (arg1 lenD) (fCons (fV 0) fNil)) (fK (.int 0))) (fC (arg1 intOf) (fCons (fB ixD (fV 0) (fK (.int 0))) fNil)) (fK (.int 0))) [some (.sl (ns.map .int)), none, none] [] = .ok (.p (.int c)) [] := by
    cases ns with
    | nil => exact ⟨0, by simp⟩
    | cons c r => exact ⟨c, by simp [ixD, itemsD, L2.atI, L2.ixN]⟩
  obtain ⟨c, h0⟩ := h0
  let v : Int := if 0 ≤ c then 2 * c else -1 - 2 * c
  have hv : (if 0 ≤ c then R.ok (D.p (.int (2 * c))) ([] : Sto) else R.ok (D.p (.int (-1 - 2 * c))) ([] : Sto)) = R.ok (D.p (.int v)) ([] : Sto) := by
    show _ = R.ok (D.p (.int (if 0 ≤ c then 2 * c else -1 - 2 * c))) _
    split <;> rfl
  let x : Int := if 1000000000000000000 ≤ v then v else 0
  have hx : (if 1000000000000000000 ≤ v then R.ok (D.p (.int v)) ([] : Sto) else R.ok (D.p (.int 0)) ([] : Sto)) = R.ok (D.p (.int x)) ([] : Sto) := by
    show _ = R.ok (D.p (.int (if 1000000000000000000 ≤ v then v else 0))) _
    split <;> rfl
  have hx' : 0 ≤ x := by show 0 ≤ (if 1000000000000000000 ≤ v then v else 0); split <;> omega
  obtain ⟨cs, hcs⟩ := cutG_ints ns (some 1) none
  have e1 : mulD (.p (.int 2)) (.p (.int c)) [] = .ok (.p (.int (2 * c))) [] := mulD_i (by unfold mulOk; omega)
  have e2 : mulD (.p (.int v)) (.p (.int 48271)) [] = .ok (.p (.int (v * 48271))) [] := mulD_i (by unfold mulOk; omega)
  have e3 : modD (.p (.int (v * 48271 + 1009))) (.p (.int 2147483629)) [] = .ok (.p (.int ((v * 48271 + 1009) % 2147483629))) [] := modD_i (by unfold modOk; omega)
  have e4 : slD false (.sl (ns.map .int)) (some 1) none [] = .ok (.p (.list (cs.map .int))) [] := by
    simp [slD, dat, hcs]
  have e5 : fSo (fK (.int 1)) [some (.sl (ns.map .int)), some (.p (.int c)), some (.p (.int v))] [] = .ok (some 1) [] := rfl
  clear_value x v
  have hps : PS [] (pl x ((v * 48271 + 1009) % 2147483629 + 3) cs) := ⟨⟨x, (v * 48271 + 1009) % 2147483629 + 3, cs, ⟨hx', by omega⟩, by rw [List.append_nil]⟩, rfl⟩
  have hl : 3 ≤ lineN := by decide
  refine ⟨_, ?_, hps⟩
  have body : b_law_pool (startE 3 [.sl (ns.map .int)]) [] = .ret (.r 1) (pl x ((v * 48271 + 1009) % 2147483629 + 3) cs) := by
    show b_law_pool [some (.sl (ns.map .int)), none, none] [] = _
    unfold b_law_pool
    rw [cSeq_eq, cAsg_eq, h0]
    simp [fSl, e1, e2, e3, e4, e5, hv, hx, listOf, itemsD, mkRef, pl, hl]
  unfold m_law_pool fnM
  rw [body]
  rfl
end MV

set_option Elab.async false
set_option linter.all false
set_option maxRecDepth 100000
set_option maxHeartbeats 1000000
namespace MV
open PySem
local instance : Tbs := ⟨[]⟩
section
variable {n a s w t d : Int} {st : Sto}
theorem kb_ib : L2.kitB "int" "bool" = some false := by rfl
theorem kb_ii : L2.kitB "int" "int" = some true := by rfl
theorem rng6 : (rngL 0 6).map D.p = [.p (.int 0), .p (.int 1), .p (.int 2), .p (.int 3), .p (.int 4), .p (.int 5)] := rfl
theorem m_blocks_eq (hc : CS st) (z : Sz n a s w t d) : m_blocks_of [.p (szD n a s w t d)] st = .ok (.p (.int (n * a + s))) st := by
  have := z.n1; have := z.n2
  exact fnM_ret hc rfl (by simp [b_blocks_of, startE, ixD, itemsD, L2.atI, L2.ixN, mulD_i (mok (i := n) (j := a) (by omega) (by omega))])
theorem m_tuple6 (hc : CS st) : m_is_tuple_of [.p (szD n a s w t d), .p (.int 6), .p (.int 6)] st = .ok (.p (.bool true)) st := by
  exact fnM_ret hc rfl (by simp [b_is_tuple_of, startE, L2.kitB])
theorem m_number (hc : CS st) (i : Int) : m_is_number [.p (.int i)] st = .ok (.p (.bool true)) st := by
  exact fnM_ret hc rfl (by simp [b_is_number, startE, kb_ib, kb_ii])
theorem m_between (hc : CS st) (i : Int) {lo hi : Int} (h : lo ≤ i) (h' : i ≤ hi) : m_is_between [.p (.int i), .p (.int lo), .p (.int hi)] st = .ok (.p (.bool true)) st := by
  exact fnM_ret hc rfl (by simp [b_is_between, startE, m_number hc, h, h'])
theorem m_made_eq (hc : CS st) (z : Sz n a s w t d) : m_made_sizes [.p (szD n a s w t d)] st = .ok (.p (szD n a s w t d)) st := by
  obtain ⟨n1, n2, a1, a2, s1, s2, w1, w2, t1, t2, d1, d2, sp, re, bl⟩ := z
  have e : (6 : Int) ≤ lineN ∧ -lineN ≤ (6 : Int) := by decide
  have r6 : rng1 [.p (.int 6)] st = .ok [.p (.int 0), .p (.int 1), .p (.int 2), .p (.int 3), .p (.int 4), .p (.int 5)] st := by
    unfold rng1
    exact if_pos e
  have b := fun i lo hi h h' => m_between (st := st) hc i (lo := lo) (hi := hi) h h'
  refine fnM_ret hc rfl ?_
  simp [b_made_sizes, startE, m_tuple6 hc, r6, loopS, ixD, itemsD, L2.atI, L2.ixN, k_BOUNDS, b n 1 40 n1 n2, b a 1 6 a1 a2, b s 1 60 s1 s2, b w 1 10000 w1 w2, b t 1 8 t1 t2, b d 0 8 d1 d2, m_drawn_eq hc a1 a2, m_blocks_eq hc (⟨n1, n2, a1, a2, s1, s2, w1, w2, t1, t2, d1, d2, sp, re, bl⟩ : Sz n a s w t d), k_MOST_BLOCKS, mulD_i (mok (i := t) (j := d + 1) (by omega) (by omega)), show ¬ s < a * t by omega, show ¬ n < t * (d + 1) by omega, show ¬ 60 < n * a + s by omega]
end
end MV

set_option Elab.async false
set_option linter.all false
set_option maxRecDepth 100000
set_option maxHeartbeats 1000000
namespace MV
open PySem
local instance : Tbs := ⟨[]⟩
def plainZ (n a s t d : Int) : Int := s + a * t * (d + 1)
def mostZ (n a s t d : Int) : Int := s + a * t * (d + 1) + (a - 1) * min (s - a * t) (n - t * (d + 1))
section
variable {n a s w t d : Int} {st : Sto}
theorem m_worth_eq (hc : CS st) (z : Sz n a s w t d) : m_worth_of [.p (.int n), .p (.int a), .p (.int s), .p (.int t), .p (.int d)] st = .ok (.p (.int (mostZ n a s t d))) st := by
  obtain ⟨n1, n2, a1, a2, s1, s2, w1, w2, t1, t2, d1, d2, sp, re, bl⟩ := z
  refine fnM_ret hc rfl ?_
  have e3 : mulD (.p (.int (a - 1))) (.p (.int (min (s - a * t) (n - t * (d + 1))))) st = .ok (.p (.int ((a - 1) * min (s - a * t) (n - t * (d + 1))))) st := mulD_i (mok (by omega) (by omega))
  simp [b_worth_of, startE, mulD_i (mok (i := a) (j := t) (by omega) (by omega)), mulD_i (mok (i := t) (j := d + 1) (by omega) (by omega)), mulD_i (mok' (i := a * t) (j := d + 1) (by omega) (by omega)), e3, mostZ]
theorem m_plain_eq (hc : CS st) (z : Sz n a s w t d) : m_plain_usable [.p (szD n a s w t d)] st = .ok (.p (.int (plainZ n a s t d))) st := by
  have e := m_made_eq hc z
  obtain ⟨n1, n2, a1, a2, s1, s2, w1, w2, t1, t2, d1, d2, sp, re, bl⟩ := z
  exact fnM_ret hc rfl (by simp [b_plain_usable, startE, e, plainZ, mulD_i (mok (i := a) (j := t) (by omega) (by omega)), mulD_i (mok' (i := a * t) (j := d + 1) (by omega) (by omega))])
theorem m_most_eq (hc : CS st) (z : Sz n a s w t d) : m_most_usable [.p (szD n a s w t d)] st = .ok (.p (.int (mostZ n a s t d))) st := by
  exact fnM_ret hc rfl (by simp [b_most_usable, startE, m_made_eq hc z, m_worth_eq hc z])
end
end MV

set_option Elab.async false
set_option linter.all false
set_option maxRecDepth 100000
set_option maxHeartbeats 1000000
namespace MV
open PySem
local instance : Tbs := ⟨[]⟩
variable {rs : Sto}
/-! ## sizes that stand: the loop -/
def standBody : SF := (cSeq (cIf (fBT leD (fB addD (fB mulD (fV 8) (fV 7)) (fV 9)) (fV 4)) cBrk cNx)
  (cIf (fBT gtD (fV 9) (fB mulD (fV 7) (fV 5))) (cAsg (gN 9) (fB subD (fV 9) (fK (.int 1)))) (cIf (fBT gtD (fV 8) (fB mulD (fV 5) (fB addD (fV 6) (fK (.int 1))))) (cAsg (gN 8) (fB subD (fV 8) (fK (.int 1)))) (cIf (fBT gtD (fV 6) (fK (.int 0))) (cAsg (gN 6) (fB subD (fV 6) (fK (.int 1)))) (cIf (fBT gtD (fV 5) (fK (.int 1))) (cAsg (gN 5) (fB subD (fV 5) (fK (.int 1)))) (cPar [7, 9] (fCons (fB subD (fV 7) (fK (.int 1))) (fCons (fB subD (fV 7) (fK (.int 1))) fNil))))))))
def standRet : SF := (cRet (fTup (fCons (fV 8) (fCons (fV 7) (fCons (fV 9) (fCons (fB addD (fK (.int 1)) (fFn 2 m_law_draw (fCons (fV 0) (fCons (fV 3) fNil)))) (fCons (fV 5) (fCons (fV 6) fNil))))))))
def standHead : List SF := [
  (cPar [5, 6] (fCons (fFn 2 m_law_pick (fCons (fV 0) (fCons (fLst (fCons (fK (.int 1)) (fCons (fK (.int 1)) (fCons (fK (.int 1)) (fCons (fK (.int 1)) (fCons (fK (.int 2)) (fCons (fK (.int 2)) (fCons (fK (.int 3)) fNil)))))))) fNil))) (fCons (fFn 2 m_law_pick (fCons (fV 0) (fCons (fLst (fCons (fK (.int 0)) (fCons (fK (.int 0)) (fCons (fK (.int 0)) (fCons (fK (.int 0)) (fCons (fK (.int 1)) (fCons (fK (.int 1)) (fCons (fK (.int 1)) (fCons (fK (.int 2)) (fCons (fK (.int 2)) (fCons (fK (.int 3)) (fCons (fK (.int 4)) (fCons (fK (.int 8)) fNil))))))))))))) fNil))) fNil))),
  (cAsg (gN 7) (fB addD (fK (.int 1)) (fFn 2 m_law_draw (fCons (fV 0) (fCons (fV 2) fNil))))),
  (cAsg (gN 8) (fC (arg2 max2) (fCons (fB mulD (fV 5) (fB addD (fV 6) (fK (.int 1)))) (fCons (fB addD (fK (.int 1)) (fFn 2 m_law_draw (fCons (fV 0) (fCons (fV 1) fNil)))) fNil)))),
  (cAsg (gN 9) (fB addD (fB mulD (fV 7) (fV 5)) (fFn 2 m_law_pick (fCons (fV 0) (fCons (fLst (fCons (fK (.int 0)) (fCons (fK (.int 1)) (fCons (fK (.int 1)) (fCons (fK (.int 2)) (fCons (fK (.int 3)) (fCons (fK (.int 4)) (fCons (fFn 2 m_law_draw (fCons (fV 0) (fCons (fK (.int 9)) fNil))) fNil)))))))) fNil))))) ]
def sq (l : List SF) (f : SF) : SF := l.foldr cSeq f
theorem b_stand_eq : b_law_stand_sizes = sq standHead (cSeq (cFor (fR rng1 (fCons (fK (.int 99)) fNil)) (gN 10) standBody) standRet) := rfl
abbrev oi (i : Int) : Option D := some (.p (.int i))
def stE (p1 p2 p3 p4 t d a n s : Int) (l : Option D) : Ev := [some (.r 1), oi p1, oi p2, oi p3, oi p4, oi t, oi d, oi a, oi n, oi s, l]
section
variable {p1 p2 p3 p4 t d a n s : Int} {l : Option D} {st : Sto}
/-- what the loop keeps -/
structure StI (t d a n s : Int) : Prop where
  t1 : 1 ≤ t
  d1 : 0 ≤ d
  a1 : 1 ≤ a
  sp : a * t ≤ s
  re : t * (d + 1) ≤ n
theorem stand_brk (b1 : n ≤ 1000000000) (b2 : 0 ≤ n) (h : n * a + s ≤ p4) : standBody (stE p1 p2 p3 p4 t d a n s l) st = .brk (stE p1 p2 p3 p4 t d a n s l) st := by
  simp [standBody, stE, mulD_i (mok (i := n) (j := a) (by omega) b1), h]
theorem stand_step (z : StI t d a n s) (bt : t ≤ 100) (ba : a ≤ 100) (b : n ≤ 1000000000) (h : p4 < n * a + s) (hp : 2 * p2 ≤ p4) (ha : a ≤ p2) :
    ∃ t' d' a' n' s', standBody (stE p1 p2 p3 p4 t d a n s l) st = .nx (stE p1 p2 p3 p4 t' d' a' n' s' l) st ∧ StI t' d' a' n' s' ∧ s' + n' + d' + t' + 1 = s + n + d + t ∧ t' ≤ t ∧ d' ≤ d ∧ a' = a ∧ n' ≤ n ∧ s' ≤ s := by
  obtain ⟨t1, d1, a1, sp, re⟩ := z
  have m1 : mulOk n a := mok' (by omega) (by omega)
  have m2 : mulOk a t := mok (by omega) (by omega)
  have m3 : mulOk t (d + 1) := mok (by omega) (by omega)
  have hb : ¬ n * a + s ≤ p4 := by omega
  by_cases c1 : a * t < s
  · exact ⟨t, d, a, n, s - 1, by simp [standBody, stE, mulD_i m1, mulD_i m2, hb, c1], ⟨t1, d1, a1, by omega, re⟩, by omega, by omega, by omega, rfl, by omega, by omega⟩
  by_cases c2 : t * (d + 1) < n
  · exact ⟨t, d, a, n - 1, s, by simp [standBody, stE, mulD_i m1, mulD_i m2, mulD_i m3, hb, c1, c2], ⟨t1, d1, a1, sp, by omega⟩, by omega, by omega, by omega, rfl, by omega, by omega⟩
  by_cases c3 : 0 < d
  · have q : t * (d - 1 + 1) ≤ t * (d + 1) := Int.mul_le_mul_of_nonneg_left (by omega) (by omega)
    exact ⟨t, d - 1, a, n, s, by simp [standBody, stE, mulD_i m1, mulD_i m2, mulD_i m3, hb, c1, c2, c3], ⟨t1, by omega, a1, sp, by omega⟩, by omega, by omega, by omega, rfl, by omega, by omega⟩
  by_cases c4 : 1 < t
  · have q : (t - 1) * (d + 1) ≤ t * (d + 1) := Int.mul_le_mul_of_nonneg_right (by omega) (by omega)
    have q' : a * (t - 1) ≤ a * t := Int.mul_le_mul_of_nonneg_left (by omega) (by omega)
    exact ⟨t - 1, d, a, n, s, by simp [standBody, stE, mulD_i m1, mulD_i m2, mulD_i m3, hb, c1, c2, c3, c4], ⟨by omega, d1, a1, by omega, by omega⟩, by omega, by omega, by omega, rfl, by omega, by omega⟩
  exfalso
  have ht : t = 1 := by omega
  have hd : d = 0 := by omega
  subst ht hd
  have hn : n = 1 := by omega
  subst hn
  omega
theorem stand_loop : ∀ (L : List D) {t d a n s : Int} {l : Option D}, StI t d a n s → t ≤ 100 → a ≤ 100 → n ≤ 1000000000 → 2 * p2 ≤ p4 → a ≤ p2 → s + n + d + t ≤ L.length →
    ∃ t' d' a' n' s' l', loopS (gN 10) standBody L (stE p1 p2 p3 p4 t d a n s l) st = .nx (stE p1 p2 p3 p4 t' d' a' n' s' l') st ∧ StI t' d' a' n' s' ∧ n' * a' + s' ≤ p4 ∧ t' ≤ t ∧ d' ≤ d ∧ a' = a ∧ n' ≤ n ∧ s' ≤ s
  | [], t, d, a, n, s, l, z, _, _, _, _, _, h => by
    obtain ⟨t1, d1, a1, sp, re⟩ := z
    have q : 0 ≤ a * t := Int.mul_nonneg (by omega) (by omega)
    have q' : 0 ≤ t * (d + 1) := Int.mul_nonneg (by omega) (by omega)
    have h : s + n + d + t ≤ 0 := h
    omega
  | x :: L, t, d, a, n, s, l, z, ht, ha, hn, hp, hap, h => by
    have hl : s + n + d + t ≤ L.length + 1 := by simpa using h
    by_cases c : n * a + s ≤ p4
    · have q' : 0 ≤ t * (d + 1) := Int.mul_nonneg (by have := z.t1; omega) (by have := z.d1; omega)
      refine ⟨t, d, a, n, s, some x, ?_, z, c, by omega, by omega, rfl, by omega, by omega⟩
      have := stand_brk (p1 := p1) (p2 := p2) (p3 := p3) (t := t) (d := d) (l := some x) (st := st) hn (by have := z.re; omega) c
      show (match standBody (stE p1 p2 p3 p4 t d a n s (some x)) st with | .nx e s => loopS (gN 10) standBody L e s | .ct e s => loopS (gN 10) standBody L e s | .brk e s => .nx e s | r => r) = _
      rw [this]
    · obtain ⟨t', d', a', n', s', e, z', hm, h1, h2, h3, h4, h5⟩ := stand_step (p1 := p1) (p2 := p2) (p3 := p3) (l := some x) (st := st) z ht ha hn (by omega) hp hap
      obtain ⟨t2, d2, a2, n2, s2, l2, e2, z2, c2, k1, k2, k3, k4, k5⟩ := stand_loop L (l := some x) z' (by omega) (by omega) (by omega) hp (by omega) (by omega)
      refine ⟨t2, d2, a2, n2, s2, l2, ?_, z2, c2, by omega, by omega, by omega, by omega, by omega⟩
      show (match standBody (stE p1 p2 p3 p4 t d a n s (some x)) st with | .nx e s => loopS (gN 10) standBody L e s | .ct e s => loopS (gN 10) standBody L e s | .brk e s => .nx e s | r => r) = _
      rw [e]
      exact e2
end
end MV

set_option Elab.async false
set_option linter.all false
set_option maxRecDepth 100000
set_option maxHeartbeats 1000000
namespace MV
open PySem
local instance : Tbs := ⟨[]⟩
variable {rs : Sto}
theorem mem_ints {d : PyData} {is : List Int} (h : d ∈ is.map PyData.int) : ∃ i, i ∈ is ∧ d = .int i := by
  obtain ⟨i, hi, e⟩ := List.mem_map.mp h
  exact ⟨i, hi, e.symm⟩
theorem pick_i {is : List Int} {st : Sto} (h : PS rs st) (hm : 1 ≤ is.length) (hm2 : is.length ≤ 1000000) : ∃ i s, m_law_pick [.r 1, .p (.list (is.map .int))] st = .ok (.p (.int i)) s ∧ PS rs s ∧ i ∈ is := by
  obtain ⟨d, s, e, h', hd⟩ := pick_g (ps := is.map .int) h (by simpa using hm) (by simpa using hm2)
  obtain ⟨i, hi, rfl⟩ := mem_ints hd
  exact ⟨i, s, e, h', hi⟩
section
variable {p1 p2 p3 p4 : Int} {st : Sto}
theorem rng99 (st : Sto) {k : Int} (h : 0 ≤ k) (h' : k ≤ 1000) : ∃ L : List D, (L.length : Int) = k ∧ rng1 [.p (.int k)] st = .ok L st := by
  refine ⟨(rngL 0 k.toNat).map .p, by simp [rngL]; omega, ?_⟩
  unfold rng1
  have hl : (1000 : Int) ≤ lineN := by decide
  exact if_pos ⟨by omega, by omega⟩
theorem stand_g (hp : PS rs st) (h1 : 1 ≤ p1) (h1' : p1 ≤ 30) (h2 : 1 ≤ p2) (h2' : p2 ≤ 6) (h3 : 1 ≤ p3) (h3' : p3 ≤ 10000) (h4 : 2 * p2 ≤ p4) (h4' : p4 ≤ 60) :
    ∃ n a s w t d st', m_law_stand_sizes [.r 1, .p (.int p1), .p (.int p2), .p (.int p3), .p (.int p4)] st = .ok (.p (szD n a s w t d)) st' ∧ PS rs st' ∧ Sz n a s w t d ∧ (n ≤ 30 ∧ a ≤ p2 ∧ s ≤ 26 ∧ w ≤ p3 ∧ t ≤ 3 ∧ d ≤ 8 ∧ n * a + s ≤ p4) := by
  obtain ⟨t, sa, ea, pa, ht⟩ := pick_i (is := [1, 1, 1, 1, 2, 2, 3]) hp (by decide) (by decide)
  have ht : 1 ≤ t ∧ t ≤ 3 := by simp at ht; omega
  obtain ⟨d, sb, eb, pb, hd⟩ := pick_i (is := [0, 0, 0, 0, 1, 1, 1, 2, 2, 3, 4, 8]) pa (by decide) (by decide)
  have hd : 0 ≤ d ∧ d ≤ 8 := by simp at hd; omega
  obtain ⟨a, sc, ec, pc, ha⟩ := draw_g (many := p2) pb (by omega) (by omega)
  obtain ⟨n, sd, ed, pd, hn⟩ := draw_g (many := p1) pc (by omega) (by omega)
  obtain ⟨q, se, ee, pe, hq⟩ := draw_g (many := 9) pd (by omega) (by omega)
  obtain ⟨s, sf, ef, pf, hs⟩ := pick_i (is := [0, 1, 1, 2, 3, 4, q]) pe (by simp) (by simp)
  have hs : 0 ≤ s ∧ s ≤ 8 := by simp at hs; omega
  have l7 : (7 : Nat) ≤ lineN := by decide
  have l12 : (12 : Nat) ≤ lineN := by decide
  have l6 : (6 : Nat) ≤ lineN := by decide
  simp only [List.map_cons, List.map_nil] at ea eb ef
  obtain ⟨L, hL, eL⟩ := rng99 sf (k := 99) (by omega) (by omega)
  have m1 : mulD (.p (.int t)) (.p (.int (d + 1))) sc = .ok (.p (.int (t * (d + 1)))) sc := mulD_i (mok (by omega) (by omega))
  have m2 : mulD (.p (.int (1 + a))) (.p (.int t)) sd = .ok (.p (.int ((1 + a) * t))) sd := mulD_i (mok (by omega) (by omega))
  have hh : ∀ (f : SF), sq standHead f (startE 11 [.r 1, .p (.int p1), .p (.int p2), .p (.int p3), .p (.int p4)]) st = f (stE p1 p2 p3 p4 t d (1 + a) (max (t * (d + 1)) (1 + n)) ((1 + a) * t + s) none) sf := by
    intro f
    simp [sq, standHead, startE, stE, mkLst, ea, eb, ec, ed, ee, ef, l7, l12, m1, m2]
  have q1 : t * (d + 1) ≤ 3 * (8 + 1) := Int.mul_le_mul (by omega) (by omega) (by omega) (by omega)
  have q2 : (1 + a) * t ≤ 6 * 3 := Int.mul_le_mul (by omega) (by omega) (by omega) (by omega)
  obtain ⟨t', d', a', n', s', l', e', z, c, k1, k2, k3, k4, k5⟩ := stand_loop (p1 := p1) (p2 := p2) (p3 := p3) (p4 := p4) (st := sf) L (t := t) (d := d) (a := 1 + a) (n := max (t * (d + 1)) (1 + n)) (s := (1 + a) * t + s) (l := none) ⟨by omega, by omega, by omega, by omega, by omega⟩ (by omega) (by omega) (by omega) (by omega) (by omega) (by omega)
  obtain ⟨w, sg, eg, pg, hw⟩ := draw_g (many := p3) pf (by omega) (by omega)
  obtain ⟨t1, d1, a1, sp, re⟩ := z
  have r1 : 0 < t' * (d' + 1) := Int.mul_pos (by omega) (by omega)
  have r2 : 0 < a' * t' := Int.mul_pos (by omega) (by omega)
  refine ⟨n', a', s', 1 + w, t', d', sg, fnM_ret pg.cs (hp.ll pg) ?_, pg, ⟨by omega, by omega, by omega, by omega, by omega, by omega, by omega, by omega, by omega, by omega, by omega, by omega, by omega, by omega, by omega⟩, by omega, by omega, by omega, by omega, by omega, by omega, by omega⟩
  rw [b_stand_eq, hh, cSeq_eq, cFor_eq]
  have ef : fR rng1 (fCons (fK (.int 99)) fNil) (stE p1 p2 p3 p4 t d (1 + a) (max (t * (d + 1)) (1 + n)) ((1 + a) * t + s) none) sf = .ok L sf := by simp [eL]
  rw [ef, go_ok, e']
  simp [standRet, stE, eg, mkTup, l6]
end
end MV

set_option Elab.async false
set_option linter.all false
set_option maxRecDepth 100000
set_option maxHeartbeats 1000000
namespace MV
open PySem
local instance : Tbs := ⟨[]⟩
variable {rs : Sto}
/-! ## great sizes -/
def kgBody : SF := (cIf (fOr (fBT gtD (fB mulD (fV 2) (fV 5)) (fV 3)) (fBT gtD (fB mulD (fV 5) (fB addD (fV 6) (fK (.int 1)))) (fV 1))) (cIf (fAnd (fBT gtD (fV 6) (fK (.int 0))) (fBT gtD (fB mulD (fV 5) (fB addD (fV 6) (fK (.int 1)))) (fV 1))) (cAsg (gN 6) (fB subD (fV 6) (fK (.int 1)))) (cIf (fBT gtD (fV 5) (fK (.int 1))) (cAsg (gN 5) (fB subD (fV 5) (fK (.int 1)))) (cAsg (gN 2) (fB subD (fV 2) (fK (.int 1)))))) (cIf (fBT gtD (fB addD (fB mulD (fV 1) (fV 2)) (fV 3)) (fK (.int 60))) (cIf (fAnd (fBT gtD (fV 3) (fB mulD (fV 2) (fV 5))) (fBT (eqD false) (fFn 2 m_law_draw (fCons (fV 0) (fCons (fK (.int 2)) fNil))) (fK (.int 0)))) (cAsg (gN 3) (fB subD (fV 3) (fK (.int 1)))) (cIf (fBT gtD (fV 1) (fB mulD (fV 5) (fB addD (fV 6) (fK (.int 1))))) (cAsg (gN 1) (fB subD (fV 1) (fK (.int 1)))) (cIf (fBT gtD (fV 3) (fB mulD (fV 2) (fV 5))) (cAsg (gN 3) (fB subD (fV 3) (fK (.int 1)))) (cIf (fBT gtD (fV 2) (fK (.int 1))) (cAsg (gN 2) (fB subD (fV 2) (fK (.int 1)))) (cAsg (gT [5, 6]) (fTup (fCons (fK (.int 1)) (fCons (fK (.int 0)) fNil)))))))) cBrk))
def kgRet : SF := (cRet (fTup (fCons (fV 1) (fCons (fV 2) (fCons (fV 3) (fCons (fV 4) (fCons (fV 5) (fCons (fV 6) fNil))))))))
def kgHead : List SF := [
  (cPar [1, 2, 3] (fCons (fB addD (fK (.int 1)) (fFn 2 m_law_draw (fCons (fV 0) (fCons (fK (.int 40)) fNil)))) (fCons (fB addD (fK (.int 1)) (fFn 2 m_law_draw (fCons (fV 0) (fCons (fK (.int 6)) fNil)))) (fCons (fB addD (fK (.int 1)) (fFn 2 m_law_draw (fCons (fV 0) (fCons (fK (.int 60)) fNil)))) fNil)))),
  (cPar [4, 5, 6] (fCons (fB addD (fK (.int 1)) (fFn 2 m_law_draw (fCons (fV 0) (fCons (fFn 2 m_law_pick (fCons (fV 0) (fCons (fLst (fCons (fK (.int 5)) (fCons (fK (.int 100)) (fCons (fK (.int 10000)) fNil)))) fNil))) fNil)))) (fCons (fB addD (fK (.int 1)) (fFn 2 m_law_draw (fCons (fV 0) (fCons (fK (.int 8)) fNil)))) (fCons (fFn 2 m_law_draw (fCons (fV 0) (fCons (fK (.int 9)) fNil))) fNil)))) ]
theorem b_great_eq : b_law_keep_great = sq kgHead (cSeq (cFor (fR rng1 (fCons (fK (.int 200)) fNil)) (gN 7) kgBody) kgRet) := rfl
def kgE (n a s w t d : Int) (l : Option D) : Ev := [some (.r 1), oi n, oi a, oi s, oi w, oi t, oi d, l]
section
variable {n a s w t d : Int} {l : Option D} {st : Sto}
structure KgI (n a s t d : Int) : Prop where
  n1 : 1 ≤ n
  n2 : n ≤ 40
  a1 : 1 ≤ a
  a2 : a ≤ 6
  s1 : 1 ≤ s
  s2 : s ≤ 60
  t1 : 1 ≤ t
  t2 : t ≤ 8
  d1 : 0 ≤ d
  d2 : d ≤ 8
theorem kg_step (hp : PS rs st) (z : KgI n a s t d) :
    (kgBody (kgE n a s w t d l) st = .brk (kgE n a s w t d l) st ∧ a * t ≤ s ∧ t * (d + 1) ≤ n ∧ n * a + s ≤ 60) ∨
    ∃ n' a' s' t' d' st', kgBody (kgE n a s w t d l) st = .nx (kgE n' a' s' w t' d' l) st' ∧ PS rs st' ∧ KgI n' a' s' t' d' ∧ n' + a' + s' + t' + d' + 1 = n + a + s + t + d := by
  obtain ⟨n1, n2, a1, a2, s1, s2, t1, t2, d1, d2⟩ := z
  have m1 : ∀ st : Sto, mulD (.p (.int n)) (.p (.int a)) st = .ok (.p (.int (n * a))) st := fun _ => mulD_i (mok' (by omega) (by omega))
  have m2 : ∀ st : Sto, mulD (.p (.int a)) (.p (.int t)) st = .ok (.p (.int (a * t))) st := fun _ => mulD_i (mok (by omega) (by omega))
  have m3 : ∀ st : Sto, mulD (.p (.int t)) (.p (.int (d + 1))) st = .ok (.p (.int (t * (d + 1)))) st := fun _ => mulD_i (mok (by omega) (by omega))
  have p1 : 0 < a * t := Int.mul_pos (by omega) (by omega)
  have p2 : 0 < t * (d + 1) := Int.mul_pos (by omega) (by omega)
  by_cases c1 : s < a * t ∨ n < t * (d + 1)
  · by_cases c2 : 0 < d ∧ n < t * (d + 1)
    · have c1' : ¬ (s < a * t) → n < t * (d + 1) := fun _ => c2.2
      exact .inr ⟨n, a, s, t, d - 1, st, by by_cases x : s < a * t <;> simp [kgBody, kgE, m2, m3, c2.1, c2.2, x], hp, ⟨n1, n2, a1, a2, s1, s2, t1, t2, by omega, by omega⟩, by omega⟩
    by_cases c3 : 1 < t
    · refine .inr ⟨n, a, s, t - 1, d, st, ?_, hp, ⟨n1, n2, a1, a2, s1, s2, by omega, by omega, d1, d2⟩, by omega⟩
      by_cases x : s < a * t
      · by_cases y : 0 < d
        · have y' : ¬ n < t * (d + 1) := fun h => c2 ⟨y, h⟩
          simp [kgBody, kgE, m2, m3, x, y, y', c3]
        · simp [kgBody, kgE, m2, m3, x, y, c3]
      · have x' : n < t * (d + 1) := by omega
        have y : ¬ 0 < d := fun h => c2 ⟨h, x'⟩
        simp [kgBody, kgE, m2, m3, x, x', y, c3]
    · have ht : t = 1 := by omega
      subst ht
      have x : s < a * 1 := by omega
      refine .inr ⟨n, a - 1, s, 1, d, st, ?_, hp, ⟨n1, n2, by omega, by omega, s1, s2, t1, t2, d1, d2⟩, by omega⟩
      by_cases y : 0 < d
      · have y' : ¬ n < 1 * (d + 1) := fun h => c2 ⟨y, h⟩
        simp only [Int.mul_one, Int.one_mul] at x y' m2 m3
        simp [kgBody, kgE, m2, m3, x, y, y']
      · simp only [Int.mul_one, Int.one_mul] at x m2 m3
        simp [kgBody, kgE, m2, m3, x, y]
  have x : ¬ s < a * t := by omega
  have y : ¬ n < t * (d + 1) := by omega
  by_cases c4 : 60 < n * a + s
  · have e0 : ∀ (r : Int) (st : Sto), eqD false (.p (.int r)) (.p (.int 0)) st = .ok (.p (.bool (decide (r = 0)))) st := by
      intro r st
      simp [eqD, eqG, dat, SeqAt.shaped, PyData.canLay0, PyData.depth, PyData.eqv]
      rfl
    by_cases c5 : a * t < s
    · obtain ⟨r, s', e, hp', hr⟩ := draw_g (many := 2) hp (by omega) (by omega)
      by_cases c6 : r = 0
      · exact .inr ⟨n, a, s - 1, t, d, s', by simp [kgBody, kgE, m1, m2, m3, x, y, c4, c5, e, e0, c6], hp', ⟨n1, n2, a1, a2, by omega, by omega, t1, t2, d1, d2⟩, by omega⟩
      by_cases c7 : t * (d + 1) < n
      · exact .inr ⟨n - 1, a, s, t, d, s', by simp [kgBody, kgE, m1, m2, m3, x, y, c4, c5, e, e0, c6, c7], hp', ⟨by omega, by omega, a1, a2, s1, s2, t1, t2, d1, d2⟩, by omega⟩
      · exact .inr ⟨n, a, s - 1, t, d, s', by simp [kgBody, kgE, m1, m2, m3, x, y, c4, c5, e, e0, c6, c7], hp', ⟨n1, n2, a1, a2, by omega, by omega, t1, t2, d1, d2⟩, by omega⟩
    by_cases c7 : t * (d + 1) < n
    · exact .inr ⟨n - 1, a, s, t, d, st, by simp [kgBody, kgE, m1, m2, m3, x, y, c4, c5, c7], hp, ⟨by omega, by omega, a1, a2, s1, s2, t1, t2, d1, d2⟩, by omega⟩
    by_cases c8 : 1 < a
    · exact .inr ⟨n, a - 1, s, t, d, st, by simp [kgBody, kgE, m1, m2, m3, x, y, c4, c5, c7, c8], hp, ⟨n1, n2, by omega, by omega, s1, s2, t1, t2, d1, d2⟩, by omega⟩
    · exfalso
      have ha : a = 1 := by omega
      subst ha
      omega
  · exact .inl ⟨by simp [kgBody, kgE, m1, m2, m3, x, y, c4], by omega, by omega, by omega⟩
theorem kg_loop : ∀ (L : List D) {n a s t d : Int} {l : Option D} {st : Sto}, PS rs st → KgI n a s t d → n + a + s + t + d < L.length →
    ∃ n' a' s' t' d' l' st', loopS (gN 7) kgBody L (kgE n a s w t d l) st = .nx (kgE n' a' s' w t' d' l') st' ∧ PS rs st' ∧ KgI n' a' s' t' d' ∧ a' * t' ≤ s' ∧ t' * (d' + 1) ≤ n' ∧ n' * a' + s' ≤ 60
  | [], n, a, s, t, d, l, st, hp, z, h => by
    have := z.n1; have := z.a1; have := z.s1; have := z.t1; have := z.d1
    have h : n + a + s + t + d < 0 := h
    omega
  | x :: L, n, a, s, t, d, l, st, hp, z, h => by
    have hl : n + a + s + t + d < L.length + 1 := by simpa using h
    have sh : loopS (gN 7) kgBody (x :: L) (kgE n a s w t d l) st = (match kgBody (kgE n a s w t d (some x)) st with | .nx e s => loopS (gN 7) kgBody L e s | .ct e s => loopS (gN 7) kgBody L e s | .brk e s => .nx e s | r => r) := rfl
    rcases kg_step (w := w) (l := some x) hp z with ⟨e, h1, h2, h3⟩ | ⟨n', a', s', t', d', st', e, hp', z', hm⟩
    · refine ⟨n, a, s, t, d, some x, st, ?_, hp, z, h1, h2, h3⟩
      rw [sh, e]
    · obtain ⟨n2, a2, s2, t2, d2, l2, st2, e2, r⟩ := kg_loop L (l := some x) hp' z' (by omega)
      refine ⟨n2, a2, s2, t2, d2, l2, st2, ?_, r⟩
      rw [sh, e]
      exact e2
theorem great_g (hp : PS rs st) : ∃ n a s w t d st', m_law_keep_great [.r 1] st = .ok (.p (szD n a s w t d)) st' ∧ PS rs st' ∧ Sz n a s w t d := by
  obtain ⟨n, s1, e1, p1, hn⟩ := draw_g (many := 40) hp (by omega) (by omega)
  obtain ⟨a, s2, e2, p2, ha⟩ := draw_g (many := 6) p1 (by omega) (by omega)
  obtain ⟨s, s3, e3, p3, hs⟩ := draw_g (many := 60) p2 (by omega) (by omega)
  obtain ⟨k, s4, e4, p4, hk⟩ := pick_i (is := [5, 100, 10000]) p3 (by simp) (by simp)
  have hk : 1 ≤ k ∧ k ≤ 10000 := by simp at hk; omega
  obtain ⟨w, s5, e5, p5, hw⟩ := draw_g (many := k) p4 (by omega) (by omega)
  obtain ⟨t, s6, e6, p6, ht⟩ := draw_g (many := 8) p5 (by omega) (by omega)
  obtain ⟨d, s7, e7, p7, hd⟩ := draw_g (many := 9) p6 (by omega) (by omega)
  have l3 : (3 : Nat) ≤ lineN := by decide
  have l6 : (6 : Nat) ≤ lineN := by decide
  simp only [List.map_cons, List.map_nil] at e4
  obtain ⟨L, hL, eL⟩ := rng99 s7 (k := 200) (by omega) (by omega)
  have hh : ∀ (f : SF), sq kgHead f (startE 8 [.r 1]) st = f (kgE (1 + n) (1 + a) (1 + s) (1 + w) (1 + t) d none) s7 := by
    intro f
    simp [sq, kgHead, startE, kgE, mkLst, e1, e2, e3, e4, e5, e6, e7, l3]
  obtain ⟨n', a', s', t', d', l', st', e', hp', z, h1, h2, h3⟩ := kg_loop (w := 1 + w) L (l := none) p7 (n := 1 + n) (a := 1 + a) (s := 1 + s) (t := 1 + t) (d := d) ⟨by omega, by omega, by omega, by omega, by omega, by omega, by omega, by omega, by omega, by omega⟩ (by omega)
  obtain ⟨n1, n2, a1, a2, s1, s2, t1, t2, d1, d2⟩ := z
  refine ⟨n', a', s', 1 + w, t', d', st', fnM_ret hp'.cs (hp.ll hp') ?_, hp', ⟨n1, n2, a1, a2, s1, s2, by omega, by omega, t1, t2, d1, d2, h1, h2, h3⟩⟩
  rw [b_great_eq, hh, cSeq_eq, cFor_eq]
  have ef : fR rng1 (fCons (fK (.int 200)) fNil) (kgE (1 + n) (1 + a) (1 + s) (1 + w) (1 + t) d none) s7 = .ok L s7 := by simp [eL]
  rw [ef, go_ok, e']
  simp [kgRet, kgE, mkTup, l6]
theorem keep_g (hp : PS rs st) : ∃ n a s w t d st', m_law_keep_sizes [.r 1] st = .ok (.p (szD n a s w t d)) st' ∧ PS rs st' ∧ Sz n a s w t d := by
  have e0 : ∀ (r : Int) (st : Sto), eqD false (.p (.int r)) (.p (.int 0)) st = .ok (.p (.bool (decide (r = 0)))) st := by
    intro r st
    simp [eqD, eqG, dat, SeqAt.shaped, PyData.canLay0, PyData.depth, PyData.eqv]
    rfl
  obtain ⟨r, s1, e1, p1, hr⟩ := draw_g (many := 3) hp (by omega) (by omega)
  by_cases c : r = 0
  · obtain ⟨n, a, s, w, t, d, st', e, p2, z⟩ := great_g p1
    exact ⟨n, a, s, w, t, d, st', fnM_ret p2.cs (hp.ll p2) (by simp [b_law_keep_sizes, startE, e1, e0, c, e]), p2, z⟩
  · obtain ⟨n, a, s, w, t, d, st', e, p2, z, _⟩ := stand_g (p1 := 6) (p2 := 3) (p3 := 5) (p4 := 16) p1 (by omega) (by omega) (by omega) (by omega) (by omega) (by omega) (by omega) (by omega)
    exact ⟨n, a, s, w, t, d, st', fnM_ret p2.cs (hp.ll p2) (by simp [b_law_keep_sizes, startE, e1, e0, c, e]), p2, z⟩
end
end MV

set_option Elab.async false
set_option linter.all false
set_option maxRecDepth 100000
set_option maxHeartbeats 1000000
namespace MV
open PySem
local instance : Tbs := ⟨[]⟩
theorem repr_p {d : PyData} {st : Sto} (h : okR d = true) : reprD (.p d) st = .ok (.p (.str d.shown)) st := by
  simp [reprD, dat, h]
theorem okR_i {i : Int} (h : -1000000000 ≤ i) (h' : i ≤ 1000000000) : okR (.int i) = true := by
  have h3 : i.natAbs < 10 ^ 31 := Nat.lt_of_lt_of_le (show i.natAbs < 1000000001 by omega) (by decide)
  simp only [okR, SeqAt.shaped, PyData.canLay0, PyData.depth, shortI, PyData.bulk, h3, decide_true, Bool.and_true, Nat.zero_le]
theorem okR_b (b : Bool) : okR (.bool b) = true := by cases b <;> decide
theorem shaped_i (i : Int) : SeqAt.shaped (.int i) = true := by simp [SeqAt.shaped, PyData.canLay0, PyData.depth]
theorem okR_iib {i j : Int} (b : Bool) (h : -1000000000 ≤ i) (h' : i ≤ 1000000000) (g : -1000000000 ≤ j) (g' : j ≤ 1000000000) : okR (.list [.int i, .int j, .bool b]) = true := by
  have h3 : i.natAbs < 10 ^ 31 := Nat.lt_of_lt_of_le (show i.natAbs < 1000000001 by omega) (by decide)
  have g3 : j.natAbs < 10 ^ 31 := Nat.lt_of_lt_of_le (show j.natAbs < 1000000001 by omega) (by decide)
  simp [okR, SeqAt.shaped, PyData.canLay0, PyData.canLayAll0, PyData.depth, PyData.depthAll, shortI, shortIs, PyData.bulk, PyData.bulkAll]
  omega
@[simp] theorem ne_str (x : Str) (st : Sto) : eqD true (.p (.str x)) (.p (.str x)) st = .ok (.p (.bool false)) st := by simp [eqD]
theorem ne_int (i j : Int) (st : Sto) : eqD true (.p (.int i)) (.p (.int j)) st = .ok (.p (.bool (!decide (i = j)))) st := by
  simp [eqD, eqG, dat, SeqAt.shaped, PyData.canLay0, PyData.depth, PyData.eqv]
  rfl
@[simp] theorem isD_bb (a b : Bool) (st : Sto) : isD true (.p (.bool a)) (.p (.bool b)) st = .ok (.p (.bool (!decide (a = b)))) st := rfl
theorem rep2 (x : PyData) (st : Sto) : mulD (.p (.list [x])) (.p (.int 2)) st = .ok (.p (.list [x, x])) st := by
  have h : ((2 : Int) ≤ lineN ∧ -lineN ≤ (2 : Int)) ∧ 1 * 2 ≤ lineN := by decide
  exact if_pos (e := R.bad) h
theorem app21 (x y z : PyData) (st : Sto) : addD (.p (.list [x, y])) (.p (.list [z])) st = .ok (.p (.list [x, y, z])) st := by
  have h : 2 + 1 ≤ lineN := by decide
  exact if_pos (e := R.bad) h
section
variable {n a s w t d : Int} {st : Sto}
/-- the plain laws of the two counts -/
theorem plain_le (z : Sz n a s w t d) : plainZ n a s t d ≤ mostZ n a s t d := by
  have := z.a1; have := z.sp; have := z.re
  have : 0 ≤ (a - 1) * min (s - a * t) (n - t * (d + 1)) := Int.mul_nonneg (by omega) (by omega)
  unfold plainZ mostZ
  omega
theorem most_le (z : Sz n a s w t d) : mostZ n a s t d ≤ n * a + s := by
  have := z.a1; have := z.sp; have := z.re
  have h1 : (a - 1) * min (s - a * t) (n - t * (d + 1)) ≤ (a - 1) * (n - t * (d + 1)) := Int.mul_le_mul_of_nonneg_left (by omega) (by omega)
  have h2 : (a - 1) * (n - t * (d + 1)) ≤ a * (n - t * (d + 1)) := Int.mul_le_mul_of_nonneg_right (by omega) (by omega)
  have h3 : a * (n - t * (d + 1)) = a * n - a * (t * (d + 1)) := Int.mul_sub ..
  have h4 : a * (t * (d + 1)) = a * t * (d + 1) := (Int.mul_assoc ..).symm
  have h5 : a * n = n * a := Int.mul_comm ..
  unfold mostZ
  omega
theorem pays_iff (z : Sz n a s w t d) : plainZ n a s t d < mostZ n a s t d ↔ 1 < a ∧ a * t < s ∧ t * (d + 1) < n := by
  have := z.a1; have := z.sp; have := z.re
  unfold plainZ mostZ
  constructor
  · intro h
    have h0 : 0 < (a - 1) * min (s - a * t) (n - t * (d + 1)) := by omega
    refine ⟨?_, ?_, ?_⟩
    · by_cases c : 1 < a
      · exact c
      · have : a - 1 = 0 := by omega
        rw [this, Int.zero_mul] at h0
        omega
    · by_cases c : a * t < s
      · exact c
      · have : min (s - a * t) (n - t * (d + 1)) = 0 := by omega
        rw [this, Int.mul_zero] at h0
        omega
    · by_cases c : t * (d + 1) < n
      · exact c
      · have : min (s - a * t) (n - t * (d + 1)) = 0 := by omega
        rw [this, Int.mul_zero] at h0
        omega
  · rintro ⟨h1, h2, h3⟩
    have : 0 < (a - 1) * min (s - a * t) (n - t * (d + 1)) := Int.mul_pos (by omega) (by omega)
    omega
theorem most_flat (z : Sz n a s w t d) : mostZ (t * (d + 1)) a s t d = t * (d + 1) * a + s := by
  have := z.sp
  have e : min (s - a * t) (t * (d + 1) - t * (d + 1)) = 0 := by omega
  have h4 : a * (t * (d + 1)) = a * t * (d + 1) := (Int.mul_assoc ..).symm
  have h5 : a * (t * (d + 1)) = t * (d + 1) * a := Int.mul_comm ..
  unfold mostZ
  rw [e, Int.mul_zero]
  omega
theorem plain_flat : plainZ (t * (d + 1)) a s t d = t * (d + 1) * a + s := by
  have h4 : a * (t * (d + 1)) = a * t * (d + 1) := (Int.mul_assoc ..).symm
  have h5 : a * (t * (d + 1)) = t * (d + 1) * a := Int.mul_comm ..
  unfold plainZ
  omega
theorem most_tight (z : Sz n a s w t d) : mostZ n a (a * t) t d = a * t * (d + 2) := by
  have := z.re
  have e : min (a * t - a * t) (n - t * (d + 1)) = 0 := by omega
  have h4 : a * t * (d + 2) = a * t * (d + 1) + a * t := by
    rw [show d + 2 = d + 1 + 1 by omega, Int.mul_add (a * t) (d + 1) 1, Int.mul_one]
  unfold mostZ
  rw [e, Int.mul_zero]
  omega
theorem plain_tight : plainZ n a (a * t) t d = a * t * (d + 2) := by
  have h4 : a * t * (d + 2) = a * t * (d + 1) + a * t := by
    rw [show d + 2 = d + 1 + 1 by omega, Int.mul_add (a * t) (d + 1) 1, Int.mul_one]
  unfold plainZ
  omega
theorem Sz.flat (z : Sz n a s w t d) : Sz (t * (d + 1)) a s w t d := by
  obtain ⟨n1, n2, a1, a2, s1, s2, w1, w2, t1, t2, d1, d2, sp, re, bl⟩ := z
  have p2 : 0 < t * (d + 1) := Int.mul_pos (by omega) (by omega)
  have p3 : t * (d + 1) * a ≤ n * a := Int.mul_le_mul_of_nonneg_right (by omega) (by omega)
  exact ⟨by omega, by omega, a1, a2, s1, s2, w1, w2, t1, t2, d1, d2, sp, by omega, by omega⟩
theorem Sz.tight (z : Sz n a s w t d) : Sz n a (a * t) w t d := by
  obtain ⟨n1, n2, a1, a2, s1, s2, w1, w2, t1, t2, d1, d2, sp, re, bl⟩ := z
  have p2 : 0 < a * t := Int.mul_pos (by omega) (by omega)
  exact ⟨n1, n2, a1, a2, by omega, by omega, w1, w2, t1, t2, d1, d2, by omega, re, by omega⟩
end
end MV

set_option Elab.async false
set_option linter.all false
set_option maxRecDepth 100000
set_option maxHeartbeats 400000
namespace MV
open PySem
local instance : Tbs := ⟨[]⟩
theorem rngL_succ (lo : Int) (m : Nat) : rngL lo (m + 1) = .int lo :: rngL (lo + 1) m := by
  unfold rngL
  rw [List.range_succ_eq_map, List.map_cons, List.map_map]
  congr 1
  · simp
  · apply List.map_congr_left
    intro i _
    show PyData.int (lo + ((i + 1 : Nat) : Int)) = _
    congr 1
    omega
/-- a loop over a range -/
theorem loop_rng {j : Nat} {f : SF} (I : Int → Ev → Sto → Prop) : ∀ (m : Nat) (lo : Int), (∀ i env st, lo ≤ i → i < lo + m → I i env st → ∃ env2 st2, f (env.set j (some (.p (.int i)))) st = .nx env2 st2 ∧ I (i + 1) env2 st2) →
    ∀ {env st}, I lo env st → ∃ env' st', loopS (gN j) f ((rngL lo m).map .p) env st = .nx env' st' ∧ I (lo + m) env' st'
  | 0, lo, _, env, st, h => ⟨env, st, rfl, by rw [show lo + ((0 : Nat) : Int) = lo by omega]; exact h⟩
  | m + 1, lo, hs, env, st, h => by
    obtain ⟨env2, st2, e, h2⟩ := hs lo env st (by omega) (by omega) h
    obtain ⟨env', st', e', h'⟩ := loop_rng I m (lo + 1) (fun i env st h1 h2 => hs i env st (by omega) (by omega)) h2
    refine ⟨env', st', ?_, by rw [show lo + ((m + 1 : Nat) : Int) = lo + 1 + m by omega]; exact h'⟩
    rw [rngL_succ, List.map_cons]
    unfold loopS
    simp only [gN_eq, e]
    exact e'
/-- a loop over a range whose last turn returns -/
theorem loop_ret {j : Nat} {f : SF} {d : D} {P : Sto → Prop} (I : Int → Ev → Sto → Prop) : ∀ (m : Nat) (lo : Int), (∀ i env st, lo ≤ i → i < lo + m → I i env st → ∃ env2 st2, f (env.set j (some (.p (.int i)))) st = .nx env2 st2 ∧ I (i + 1) env2 st2) →
    (∀ env st, I (lo + m) env st → ∃ st2, f (env.set j (some (.p (.int (lo + m))))) st = .ret d st2 ∧ P st2) →
    ∀ {env st}, I lo env st → ∃ st', loopS (gN j) f ((rngL lo (m + 1)).map .p) env st = .ret d st' ∧ P st'
  | 0, lo, _, hl, env, st, h => by
    obtain ⟨st2, e, h2⟩ := hl env st (by rw [show lo + ((0 : Nat) : Int) = lo by omega]; exact h)
    rw [show lo + ((0 : Nat) : Int) = lo by omega] at e
    refine ⟨st2, ?_, h2⟩
    rw [rngL_succ, List.map_cons]
    unfold loopS
    simp only [gN_eq, e]
  | m + 1, lo, hs, hl, env, st, h => by
    obtain ⟨env2, st2, e, h2⟩ := hs lo env st (by omega) (by omega) h
    obtain ⟨st', e', h'⟩ := loop_ret I m (lo + 1) (fun i env st h1 h2 => hs i env st (by omega) (by omega)) (fun env st h => by
      have := hl env st
      rw [show lo + ((m + 1 : Nat) : Int) = lo + 1 + m by omega] at this
      exact this h) h2
    refine ⟨st', ?_, h'⟩
    rw [rngL_succ, List.map_cons]
    unfold loopS
    simp only [gN_eq, e]
    exact e'
/-- a def that hands on a list it made: the list frozen -/
theorem fnM_frz {N : Nat} {f : SF} {ds : List D} {st st' ext : Sto} {k : Nat} {ps : List PyData} (hc : CS st') (hl : st'.length = st.length) (h : f (startE N ds) st = .ret (.r k) (st' ++ ext)) (hk : st.length ≤ k) (hx : (st' ++ ext)[k]? = some (.lst (ps.map .p))) : fnM false N f ds st = .ok (.p (.list ps)) st' := by
  unfold fnM
  rw [h]
  show cutR st.length (.ok (.r k) (st' ++ ext)) = _
  have tk : (st' ++ ext).take st.length = st' := by rw [← hl]; simp
  simp only [cutR, tk, hx, allP_map]
  rw [if_pos ⟨by rw [List.length_append]; omega, by rw [← hl]; exact hc⟩, if_neg (by omega)]
variable {rs : Sto}
theorem PS.snoc {st : Sto} (h : PS rs st) (ps : List PyData) : PS (rs ++ [.lst (ps.map .p)]) (st ++ [.lst (ps.map .p)]) := by
  have hq := h.cs.app ps
  obtain ⟨⟨x, y, cs, h1, rfl⟩, hc⟩ := h
  refine ⟨⟨x, y, cs, h1, by rw [List.append_assoc]⟩, ?_⟩
  have hq : ((pl x y cs ++ rs) ++ [OB.lst (ps.map D.p)]).all (belowO ((pl x y cs ++ rs) ++ [OB.lst (ps.map D.p)]).length) = true := hq
  rw [List.append_assoc, List.all_append, Bool.and_eq_true] at hq
  have hl : (pl x y cs ++ (rs ++ [OB.lst (ps.map D.p)])).length = (rs ++ [OB.lst (ps.map D.p)]).length + 2 := by simp [pl]
  rw [hl] at hq
  exact hq.2
theorem PS.cut {st os : Sto} (h : PS (rs ++ os) st) (hc : rs.all (belowO (rs.length + 2)) = true) : ∃ s, st = s ++ os ∧ PS rs s := by
  obtain ⟨⟨x, y, cs, h1, rfl⟩, _⟩ := h
  exact ⟨pl x y cs ++ rs, by rw [List.append_assoc], ⟨x, y, cs, h1, rfl⟩, hc⟩
theorem PS.re {s : Sto} (h : PS rs s) (ps qs : List PyData) : PS (rs ++ [.lst (ps.map .p), .lst (qs.map .p)]) (s ++ [.lst (ps.map .p), .lst (qs.map .p)]) := by
  have := (h.snoc ps).snoc qs
  rw [List.append_assoc, List.append_assoc] at this
  exact this
end MV

set_option Elab.async false
set_option linter.all false
set_option maxRecDepth 100000
set_option maxHeartbeats 2000000
namespace MV
open PySem
local instance : Tbs := ⟨[]⟩
@[simp] theorem cRaise_eq (x : Str) (fa : FA) (env : Ev) (st : Sto) : cRaise x fa env st = (fa env st).go env fun as s => match as with
  | [d] => .exc x d env s
  | _ => .bad := rfl
theorem fnM_exc {N : Nat} {f : SF} {ds : List D} {st st' : Sto} {env : Ev} {c : Str} {x : PyData} (hc : CS st') (hl : st'.length = st.length) (h : f (startE N ds) st = .exc c (.p x) env st') : fnM false N f ds st = .exc c (.p x) st' := by
  unfold fnM
  rw [h]
  show cutR st.length (.exc c (.p x) st') = _
  simp only [cutR]
  rw [← hl, if_pos ⟨Nat.le_refl _, by rw [List.take_length]; exact hc⟩, List.take_length]
/-! ## any thing as sizes -/
def plainP : PyData → Bool
  | .dict _ => false
  | _ => true
def isInt : PyData → Bool
  | .int _ => true
  | _ => false
def betw (x : PyData) (lo hi : Int) : Bool := match x with
  | .int i => decide (lo ≤ i) && decide (i ≤ hi)
  | _ => false
@[simp] theorem betw_i (i lo hi : Int) : betw (.int i) lo hi = (decide (lo ≤ i) && decide (i ≤ hi)) := rfl
section
variable {st : Sto}
theorem kb_bi : L2.kitB "bool" "int" = some true := by rfl
theorem kb_bb : L2.kitB "bool" "bool" = some true := by rfl
theorem kb_si : L2.kitB "str" "int" = some false := by rfl
theorem kb_li : L2.kitB "list" "int" = some false := by rfl
theorem kb_ti : L2.kitB "tuple" "int" = some false := by rfl
theorem kb_ni : L2.kitB "NoneType" "int" = some false := by rfl
theorem kb_st : L2.kitB "str" "tuple" = some false := by rfl
theorem kb_lt : L2.kitB "list" "tuple" = some false := by rfl
theorem kb_tt : L2.kitB "tuple" "tuple" = some true := by rfl
theorem kb_nt : L2.kitB "NoneType" "tuple" = some false := by rfl
theorem kb_bt : L2.kitB "bool" "tuple" = some false := by rfl
theorem kb_it : L2.kitB "int" "tuple" = some false := by rfl
theorem m_number_x (hc : CS st) {x : PyData} (h : plainP x = true) : m_is_number [.p x] st = .ok (.p (.bool (isInt x))) st := by
  cases x with
  | dict _ => cases h
  | _ => exact fnM_ret hc rfl (by simp [b_is_number, startE, kb_ib, kb_ii, kb_bi, kb_bb, kb_si, kb_li, kb_ti, kb_ni, isInt])
theorem m_between_x (hc : CS st) {x : PyData} (h : plainP x = true) (lo hi : Int) : m_is_between [.p x, .p (.int lo), .p (.int hi)] st = .ok (.p (.bool (betw x lo hi))) st := by
  have e := m_number_x hc h
  cases x with
  | int i =>
    refine fnM_ret hc rfl ?_
    by_cases c : lo ≤ i <;> simp [b_is_between, startE, e, isInt, betw, c]
  | dict _ => cases h
  | _ => exact fnM_ret hc rfl (by simp [b_is_between, startE, e, isInt, betw])
/-- whether a thing is a tuple of so many items -/
def tupLen : PyData → Option Nat
  | .tuple ds => some ds.length
  | _ => none
theorem m_tuple_x (hc : CS st) {x : PyData} (h : plainP x = true) (lo hi : Int) : m_is_tuple_of [.p x, .p (.int lo), .p (.int hi)] st = .ok (.p (.bool (match tupLen x with | some k => decide (lo ≤ k) && decide ((k : Int) ≤ hi) | none => false))) st := by
  cases x with
  | tuple ds =>
    refine fnM_ret hc rfl ?_
    by_cases c : lo ≤ (ds.length : Int) <;> simp [b_is_tuple_of, startE, kb_tt, tupLen, c]
  | dict _ => cases h
  | _ => exact fnM_ret hc rfl (by simp [b_is_tuple_of, startE, tupLen, kb_st, kb_lt, kb_nt, kb_bt, kb_it])
/-- what is wrong with numbers as sizes: the class and what it is about -/
def madeZ (n a s w t d : Int) : Option (Str × Int) :=
  if s < a * t then some ("FewSpares", a * t - s)
  else if n < t * (d + 1) then some ("FewRecords", t * (d + 1) - n)
  else if 60 < n * a + s then some ("TooMany", n * a + s)
  else none
/-- what is wrong with a thing as sizes -/
def madeX : PyData → Option (Str × Int)
  | .tuple [x0, x1, x2, x3, x4, x5] =>
    if betw x0 1 40 = false then some ("BadSizes", 0)
    else if betw x1 1 6 = false then some ("BadSizes", 1)
    else if betw x2 1 60 = false then some ("BadSizes", 2)
    else if betw x3 1 10000 = false then some ("BadSizes", 3)
    else if betw x4 1 8 = false then some ("BadSizes", 4)
    else if betw x5 0 8 = false then some ("BadSizes", 5)
    else match x0, x1, x2, x3, x4, x5 with
      | .int n, .int a, .int s, .int w, .int t, .int d => madeZ n a s w t d
      | _, _, _, _, _, _ => none
  | _ => some ("BadSizes", -1)
/-- a call's answer: x, or raising -/
def orX (x : PyData) (e : Option (Str × Int)) (st : Sto) : R D := match e with
  | none => .ok (.p x) st
  | some (c, i) => .exc c (.p (.int i)) st
theorem betw_int {x : PyData} {lo hi : Int} (h : betw x lo hi = true) : ∃ i, x = .int i ∧ lo ≤ i ∧ i ≤ hi := by
  cases x with
  | int i => simp [betw] at h; exact ⟨i, rfl, h⟩
  | _ => cases h
def allPl : List PyData → Bool
  | [] => true
  | x :: r => plainP x && allPl r
def mdBody : SF := (cIf (fNot (fT (fFn 3 m_is_between (fCons (fB ixD (fV 0) (fV 1)) (fCons (fB ixD (fB ixD (fK k_BOUNDS) (fV 1)) (fK (.int 0))) (fCons (fB ixD (fB ixD (fK k_BOUNDS) (fV 1)) (fK (.int 1))) fNil)))))) (cRaise "BadSizes" (fCons (fV 1) fNil)) cNx)
theorem rng6' (st : Sto) : rng1 [.p (.int 6)] st = .ok [.p (.int 0), .p (.int 1), .p (.int 2), .p (.int 3), .p (.int 4), .p (.int 5)] st := by
  have e : (6 : Int) ≤ lineN ∧ -lineN ≤ (6 : Int) := by decide
  unfold rng1
  exact if_pos e
theorem made_x6 (hc : CS st) {x0 x1 x2 x3 x4 x5 : PyData} (p0 : plainP x0 = true) (p1 : plainP x1 = true) (p2 : plainP x2 = true) (p3 : plainP x3 = true) (p4 : plainP x4 = true) (p5 : plainP x5 = true) :
    m_made_sizes [.p (.tuple [x0, x1, x2, x3, x4, x5])] st = orX (.tuple [x0, x1, x2, x3, x4, x5]) (madeX (.tuple [x0, x1, x2, x3, x4, x5])) st := by
  have e6 := m_tuple_x (st := st) hc (x := .tuple [x0, x1, x2, x3, x4, x5]) rfl 6 6
  simp only [tupLen, List.length_cons, List.length_nil] at e6
  have b0 := m_between_x (st := st) hc p0 1 40
  have b1 := m_between_x (st := st) hc p1 1 6
  have b2 := m_between_x (st := st) hc p2 1 60
  have b3 := m_between_x (st := st) hc p3 1 10000
  have b4 := m_between_x (st := st) hc p4 1 8
  have b5 := m_between_x (st := st) hc p5 0 8
  by_cases c0 : betw x0 1 40 = false
  · simp only [c0] at b0
    simp only [madeX, c0, if_true, orX]
    exact fnM_exc hc rfl (env := [some (.p (.tuple [x0, x1, x2, x3, x4, x5])), some (.p (.int 0)), none]) (by simp [b_made_sizes, startE, e6, rng6', loopS, ixD, itemsD, L2.atI, L2.ixN, k_BOUNDS, b0])
  have c0 : betw x0 1 40 = true := by simpa using c0
  by_cases c1 : betw x1 1 6 = false
  · simp only [c0, c1] at b0 b1
    simp only [madeX, c0, c1, if_true, orX]
    exact fnM_exc hc rfl (env := [some (.p (.tuple [x0, x1, x2, x3, x4, x5])), some (.p (.int 1)), none]) (by simp [b_made_sizes, startE, e6, rng6', loopS, ixD, itemsD, L2.atI, L2.ixN, k_BOUNDS, b0, b1])
  have c1 : betw x1 1 6 = true := by simpa using c1
  by_cases c2 : betw x2 1 60 = false
  · simp only [c0, c1, c2] at b0 b1 b2
    simp only [madeX, c0, c1, c2, if_true, orX]
    exact fnM_exc hc rfl (env := [some (.p (.tuple [x0, x1, x2, x3, x4, x5])), some (.p (.int 2)), none]) (by simp [b_made_sizes, startE, e6, rng6', loopS, ixD, itemsD, L2.atI, L2.ixN, k_BOUNDS, b0, b1, b2])
  have c2 : betw x2 1 60 = true := by simpa using c2
  by_cases c3 : betw x3 1 10000 = false
  · simp only [c0, c1, c2, c3] at b0 b1 b2 b3
    simp only [madeX, c0, c1, c2, c3, if_true, orX]
    exact fnM_exc hc rfl (env := [some (.p (.tuple [x0, x1, x2, x3, x4, x5])), some (.p (.int 3)), none]) (by simp [b_made_sizes, startE, e6, rng6', loopS, ixD, itemsD, L2.atI, L2.ixN, k_BOUNDS, b0, b1, b2, b3])
  have c3 : betw x3 1 10000 = true := by simpa using c3
  by_cases c4 : betw x4 1 8 = false
  · simp only [c0, c1, c2, c3, c4] at b0 b1 b2 b3 b4
    simp only [madeX, c0, c1, c2, c3, c4, if_true, orX]
    exact fnM_exc hc rfl (env := [some (.p (.tuple [x0, x1, x2, x3, x4, x5])), some (.p (.int 4)), none]) (by simp [b_made_sizes, startE, e6, rng6', loopS, ixD, itemsD, L2.atI, L2.ixN, k_BOUNDS, b0, b1, b2, b3, b4])
  have c4 : betw x4 1 8 = true := by simpa using c4
  by_cases c5 : betw x5 0 8 = false
  · simp only [c0, c1, c2, c3, c4, c5] at b0 b1 b2 b3 b4 b5
    simp only [madeX, c0, c1, c2, c3, c4, c5, if_true, orX]
    exact fnM_exc hc rfl (env := [some (.p (.tuple [x0, x1, x2, x3, x4, x5])), some (.p (.int 5)), none]) (by simp [b_made_sizes, startE, e6, rng6', loopS, ixD, itemsD, L2.atI, L2.ixN, k_BOUNDS, b0, b1, b2, b3, b4, b5])
  have c5 : betw x5 0 8 = true := by simpa using c5
  obtain ⟨n, rfl, n1, n2⟩ := betw_int c0
  obtain ⟨a, rfl, a1, a2⟩ := betw_int c1
  obtain ⟨s, rfl, s1, s2⟩ := betw_int c2
  obtain ⟨w, rfl, w1, w2⟩ := betw_int c3
  obtain ⟨t, rfl, t1, t2⟩ := betw_int c4
  obtain ⟨d, rfl, d1, d2⟩ := betw_int c5
  have md : madeX (.tuple [.int n, .int a, .int s, .int w, .int t, .int d]) = madeZ n a s w t d := by simp only [madeX, c0, c1, c2, c3, c4, c5]; rfl
  rw [md]
  have mb : m_blocks_of [.p (szD n a s w t d)] st = .ok (.p (.int (n * a + s))) st := fnM_ret hc rfl (by simp [b_blocks_of, startE, ixD, itemsD, L2.atI, L2.ixN, mulD_i (mok (i := n) (j := a) (by omega) (by omega))])
  have m4 := mulD_i (st := st) (mok (i := t) (j := d + 1) (by omega) (by omega))
  simp only [c0, c1, c2, c3, c4, c5] at b0 b1 b2 b3 b4 b5
  have mdr : m_drawn_of [.p (szD n a s w t d)] st = .ok (.p (.int (a * t))) st := m_drawn_eq hc a1 a2
  unfold madeZ
  by_cases h1 : s < a * t
  · rw [if_pos h1]
    exact fnM_exc hc rfl (env := [some (.p (szD n a s w t d)), some (.p (.int 5)), none]) (by simp [b_made_sizes, startE, e6, rng6', loopS, ixD, itemsD, L2.atI, L2.ixN, k_BOUNDS, b0, b1, b2, b3, b4, b5, mdr, h1])
  rw [if_neg h1]
  by_cases h2 : n < t * (d + 1)
  · rw [if_pos h2]
    exact fnM_exc hc rfl (env := [some (.p (szD n a s w t d)), some (.p (.int 5)), some (.p (.int (t * (d + 1))))]) (by simp [b_made_sizes, startE, e6, rng6', loopS, ixD, itemsD, L2.atI, L2.ixN, k_BOUNDS, b0, b1, b2, b3, b4, b5, mdr, h1, m4, h2])
  rw [if_neg h2]
  by_cases h3 : 60 < n * a + s
  · rw [if_pos h3]
    exact fnM_exc hc rfl (env := [some (.p (szD n a s w t d)), some (.p (.int 5)), some (.p (.int (t * (d + 1))))]) (by simp [b_made_sizes, startE, e6, rng6', loopS, ixD, itemsD, L2.atI, L2.ixN, k_BOUNDS, b0, b1, b2, b3, b4, b5, mdr, h1, m4, h2, mb, k_MOST_BLOCKS, h3])
  rw [if_neg h3]
  exact fnM_ret hc rfl (by simp [b_made_sizes, startE, e6, rng6', loopS, ixD, itemsD, L2.atI, L2.ixN, k_BOUNDS, b0, b1, b2, b3, b4, b5, mdr, h1, m4, h2, mb, k_MOST_BLOCKS, h3])
/-- a thing with no dict in it, at the top -/
def topPl (x : PyData) : Bool := plainP x && match x with
  | .tuple ds => allPl ds
  | _ => true
theorem m_made_x (hc : CS st) {x : PyData} (h : topPl x = true) : m_made_sizes [.p x] st = orX x (madeX x) st := by
  have hp : plainP x = true := by
    unfold topPl at h
    rw [Bool.and_eq_true] at h
    exact h.1
  by_cases h6 : ∃ x0 x1 x2 x3 x4 x5, x = .tuple [x0, x1, x2, x3, x4, x5]
  · obtain ⟨x0, x1, x2, x3, x4, x5, rfl⟩ := h6
    simp only [topPl, allPl, Bool.and_eq_true] at h
    obtain ⟨_, h0, h1, h2, h3, h4, h5, _⟩ := h
    exact made_x6 hc h0 h1 h2 h3 h4 h5
  · have e6 := m_tuple_x (st := st) hc hp 6 6
    have hn : (match tupLen x with | some k => decide ((6 : Int) ≤ k) && decide ((k : Int) ≤ 6) | none => false) = false := by
      cases x with
      | tuple ds =>
        match ds, h6 with
        | [], _ => rfl
        | [_], _ => rfl
        | [_, _], _ => rfl
        | [_, _, _], _ => rfl
        | [_, _, _, _], _ => rfl
        | [_, _, _, _, _], _ => rfl
        | [a, b, c, d, e, f], h6 => exact absurd ⟨a, b, c, d, e, f, rfl⟩ h6
        | _ :: _ :: _ :: _ :: _ :: _ :: _ :: r, _ =>
          simp only [tupLen, List.length_cons]
          simp
          omega
      | _ => rfl
    rw [hn] at e6
    have hx : madeX x = some (("BadSizes" : Str), (-1 : Int)) := by
      unfold madeX
      split
      · rename_i a b c d e f
        exact absurd ⟨a, b, c, d, e, f, rfl⟩ h6
      · rfl
    rw [hx]
    exact fnM_exc hc rfl (env := [some (.p x), none, none]) (by simp [b_made_sizes, startE, e6])
theorem madeZ_none {n a s w t d : Int} (h : madeZ n a s w t d = none) : a * t ≤ s ∧ t * (d + 1) ≤ n ∧ n * a + s ≤ 60 := by
  unfold madeZ at h
  split at h
  · cases h
  · split at h
    · cases h
    · split at h
      · cases h
      · omega
theorem Sz.madeX {n a s w t d : Int} (z : Sz n a s w t d) : MV.madeX (szD n a s w t d) = none := by
  obtain ⟨n1, n2, a1, a2, s1, s2, w1, w2, t1, t2, d1, d2, sp, re, bl⟩ := z
  simp [MV.madeX, szD, betw, n1, n2, a1, a2, s1, s2, w1, w2, t1, t2, d1, d2, madeZ, show ¬ s < a * t by omega, show ¬ n < t * (d + 1) by omega, show ¬ 60 < n * a + s by omega]
/-- what is none wrong is sizes -/
theorem sz_of {x : PyData} (h : MV.madeX x = none) : ∃ n a s w t d, x = szD n a s w t d ∧ Sz n a s w t d := by
  unfold MV.madeX at h
  split at h
  · rename_i x0 x1 x2 x3 x4 x5
    by_cases c0 : betw x0 1 40 = false
    · simp [c0] at h
    by_cases c1 : betw x1 1 6 = false
    · simp [c0, c1] at h
    by_cases c2 : betw x2 1 60 = false
    · simp [c0, c1, c2] at h
    by_cases c3 : betw x3 1 10000 = false
    · simp [c0, c1, c2, c3] at h
    by_cases c4 : betw x4 1 8 = false
    · simp [c0, c1, c2, c3, c4] at h
    by_cases c5 : betw x5 0 8 = false
    · simp [c0, c1, c2, c3, c4, c5] at h
    obtain ⟨n, rfl, n1, n2⟩ := betw_int (by simpa using c0 : betw x0 1 40 = true)
    obtain ⟨a, rfl, a1, a2⟩ := betw_int (by simpa using c1 : betw x1 1 6 = true)
    obtain ⟨s, rfl, s1, s2⟩ := betw_int (by simpa using c2 : betw x2 1 60 = true)
    obtain ⟨w, rfl, w1, w2⟩ := betw_int (by simpa using c3 : betw x3 1 10000 = true)
    obtain ⟨t, rfl, t1, t2⟩ := betw_int (by simpa using c4 : betw x4 1 8 = true)
    obtain ⟨d, rfl, d1, d2⟩ := betw_int (by simpa using c5 : betw x5 0 8 = true)
    rw [if_neg c0, if_neg c1, if_neg c2, if_neg c3, if_neg c4, if_neg c5] at h
    obtain ⟨h1, h2, h3⟩ := madeZ_none (w := w) h
    exact ⟨n, a, s, w, t, d, rfl, n1, n2, a1, a2, s1, s2, w1, w2, t1, t2, d1, d2, h1, h2, h3⟩
  · cases h
@[simp] theorem fLet_eq (cs : List Str) (fe : EF) (env : Ev) (st : Sto) : fLet cs fe env st = match fe env st with
  | .ok _ s => .ok (.p (.bool true)) s
  | .exc c _ s => if cs.contains c then .ok (.p (.bool false)) s else .bad
  | .bad => .bad := rfl
/-- the classes that sizes are refused with -/
theorem madeX_cls {x : PyData} {c : Str} {i : Int} (h : MV.madeX x = some (c, i)) : c = "BadSizes" ∨ c = "FewSpares" ∨ c = "FewRecords" ∨ c = "TooMany" := by
  unfold MV.madeX at h
  split at h
  · repeat' split at h
    all_goals first
      | (cases h; exact .inl rfl)
      | skip
    · unfold madeZ at h
      repeat' split at h
      all_goals first
        | (cases h; exact .inr (.inl rfl))
        | (cases h; exact .inr (.inr (.inl rfl)))
        | (cases h; exact .inr (.inr (.inr rfl)))
        | cases h
    · cases h
  · cases h; exact .inl rfl
theorem m_is_sizes_x (hc : CS st) {x : PyData} (h : topPl x = true) : m_is_sizes [.p x] st = .ok (.p (.bool (MV.madeX x).isNone)) st := by
  have e := m_made_x hc h
  cases hx : MV.madeX x with
  | none =>
    rw [hx] at e
    simp only [orX] at e
    exact fnM_ret hc rfl (by simp [b_is_sizes, startE, e])
  | some q =>
    obtain ⟨c, i⟩ := q
    rw [hx] at e
    simp only [orX] at e
    have hr : refL.contains c = true := by rcases madeX_cls hx with h | h | h | h <;> subst h <;> decide +kernel
    exact fnM_ret hc rfl (by simp only [b_is_sizes, startE, cRet_eq, fLet_eq, fFn_eq, fCons_eq, fV_eq, fNil_eq, List.map_cons, List.map_nil, List.length_cons, List.length_nil, List.cons_append, List.nil_append, List.getElem?_cons_zero, bind_ok, e, hr, if_true, go_ok, Option.isNone])
end
end MV

set_option Elab.async false
set_option linter.all false
set_option maxRecDepth 100000
set_option maxHeartbeats 2000000
namespace MV
open PySem
local instance : Tbs := ⟨[]⟩
section
variable {n a s w t d : Int} {st : Sto}
theorem m_worth_any (hc : CS st) (a1 : 1 ≤ a) (a2 : a ≤ 6) (t1 : 1 ≤ t) (t2 : t ≤ 8) (d1 : 0 ≤ d) (d2 : d ≤ 9) : m_worth_of [.p (.int n), .p (.int a), .p (.int s), .p (.int t), .p (.int d)] st = .ok (.p (.int (mostZ n a s t d))) st := by
  refine fnM_ret hc rfl ?_
  have e3 : mulD (.p (.int (a - 1))) (.p (.int (min (s - a * t) (n - t * (d + 1))))) st = .ok (.p (.int ((a - 1) * min (s - a * t) (n - t * (d + 1))))) st := mulD_i (mok (by omega) (by omega))
  simp [b_worth_of, startE, mulD_i (mok (i := a) (j := t) (by omega) (by omega)), mulD_i (mok (i := t) (j := d + 1) (by omega) (by omega)), mulD_i (mok' (i := a * t) (j := d + 1) (by omega) (by omega)), e3, mostZ]
/-- what an oath, a gap brings -/
def oathD (n a s t d : Int) : PyData := if t * (d + 1) ≤ n - 1 then .int (mostZ (n - 1) a (s + a) t d - mostZ n a s t d) else .none
def gapD (n a s t d : Int) : PyData := if t * (d + 2) ≤ n then .int (mostZ n a s t (d + 1) - mostZ n a s t d) else .none
def gainsT (n a s t d : Int) : PyData := .tuple [.int (mostZ n a (s + 1) t d - mostZ n a s t d), .int (mostZ (n + 1) a s t d - mostZ n a s t d), gapD n a s t d, oathD n a s t d]
theorem m_gains_all (hc : CS st) (z : Sz n a s w t d) : m_gains [.p (szD n a s w t d)] st = .ok (.p (gainsT n a s t d)) st := by
  have e := m_made_eq hc z
  obtain ⟨n1, n2, a1, a2, s1, s2, w1, w2, t1, t2, d1, d2, sp, re, bl⟩ := z
  have f := fun (n s d : Int) (d1 : 0 ≤ d) (d2 : d ≤ 9) => m_worth_any (n := n) (s := s) hc a1 a2 t1 t2 d1 d2
  have f0 := f n s d d1 (by omega)
  have f1 := f n s (d + 1) (by omega) (by omega)
  have f2 := f (n - 1) (s + a) d d1 (by omega)
  have f3 := f n (s + 1) d d1 (by omega)
  have f4 := f (n + 1) s d d1 (by omega)
  have l2 : 2 ≤ lineN := by decide
  have l4 : 4 ≤ lineN := by decide
  have m1 := mulD_i (st := st) (mok (i := t) (j := d + 1) (by omega) (by omega))
  have m2 := mulD_i (st := st) (mok (i := t) (j := d + 2) (by omega) (by omega))
  refine fnM_ret hc rfl ?_
  unfold gainsT oathD gapD
  by_cases c1 : t * (d + 2) ≤ n <;> by_cases c2 : t * (d + 1) ≤ n - 1 <;> simp [b_gains, startE, e, f0, f1, f2, f3, f4, m1, m2, l2, l4, mkTup, c1, c2]
end
theorem inD_2 (neg : Bool) (x i j : Int) (st : Sto) : inD neg (.p (.int x)) (.p (.list [.int i, .int j])) st = .ok (.p (.bool (if neg then !(decide (i = x) || decide (j = x)) else (decide (i = x) || decide (j = x))))) st := by
  cases neg <;> simp [inD, dat, SeqAt.shaped, PyData.canLay0, PyData.canLayAll0, PyData.depth, PyData.depthAll, PyData.eqv] <;> rfl
theorem eqD_b (neg : Bool) (i j : Bool) (st : Sto) : eqD neg (.p (.bool i)) (.p (.bool j)) st = .ok (.p (.bool (if neg then !decide (i = j) else decide (i = j)))) st := by
  cases neg <;> cases i <;> cases j <;> rfl
theorem isD_n (neg : Bool) (x : PyData) (st : Sto) : isD neg (.p x) (.p .none) st = .ok (.p (.bool (if neg then !isNonD (.p x) else isNonD (.p x)))) st := rfl
theorem isD_tf (neg : Bool) (i j : Bool) (st : Sto) : isD neg (.p (.bool i)) (.p (.bool j)) st = .ok (.p (.bool (if neg then !decide (i = j) else decide (i = j)))) st := rfl
theorem eq_nil_nil (neg : Bool) (st : Sto) : eqD neg (.p (.list [])) (.p (.list [])) st = .ok (.p (.bool (!neg))) st := by
  cases neg <;> simp [eqD, eqG, dat, SeqAt.shaped, PyData.canLay0, PyData.canLayAll0, PyData.depth, PyData.depthAll, PyData.eqv, PyData.eqvAll]
section
variable {n a s w t d : Int}
/-! ## the plain laws of one more -/
theorem a1_cases (h : 1 ≤ a) : ∃ b, a = b + 1 ∧ 0 ≤ b := ⟨a - 1, by omega, by omega⟩
theorem more_s (z : Sz n a s w t d) : mostZ n a (s + 1) t d - mostZ n a s t d = 1 ∨ mostZ n a (s + 1) t d - mostZ n a s t d = a := by
  unfold mostZ
  have := z.a1
  by_cases h : s - a * t < n - t * (d + 1)
  · right
    rw [show min (s + 1 - a * t) (n - t * (d + 1)) = min (s - a * t) (n - t * (d + 1)) + 1 by omega, Int.mul_add (a - 1) (min (s - a * t) (n - t * (d + 1))) 1, Int.mul_one]
    omega
  · left
    rw [show min (s + 1 - a * t) (n - t * (d + 1)) = min (s - a * t) (n - t * (d + 1)) by omega]
    omega
theorem more_n (z : Sz n a s w t d) : mostZ (n + 1) a s t d - mostZ n a s t d = 0 ∨ mostZ (n + 1) a s t d - mostZ n a s t d = a - 1 := by
  unfold mostZ
  by_cases h : n - t * (d + 1) < s - a * t
  · right
    rw [show min (s - a * t) (n + 1 - t * (d + 1)) = min (s - a * t) (n - t * (d + 1)) + 1 by omega, Int.mul_add (a - 1) (min (s - a * t) (n - t * (d + 1))) 1, Int.mul_one]
    omega
  · left
    rw [show min (s - a * t) (n + 1 - t * (d + 1)) = min (s - a * t) (n - t * (d + 1)) by omega]
    omega
theorem more_d (z : Sz n a s w t d) : t ≤ mostZ n a s t (d + 1) - mostZ n a s t d ∧ mostZ n a s t (d + 1) - mostZ n a s t d ≤ a * t := by
  obtain ⟨n1, n2, a1, a2, s1, s2, w1, w2, t1, t2, d1, d2, sp, re, bl⟩ := z
  have e1 : t * (d + 1 + 1) = t * (d + 1) + t := by rw [Int.mul_add t (d + 1) 1, Int.mul_one]
  have e2 : a * t * (d + 1 + 1) = a * t * (d + 1) + a * t := by rw [Int.mul_add (a * t) (d + 1) 1, Int.mul_one]
  unfold mostZ
  rw [e1, e2]
  generalize t * (d + 1) = q at *
  obtain ⟨b, rfl, hb⟩ := a1_cases a1
  have e3 : (b + 1) * t = b * t + t := by rw [Int.add_mul, Int.one_mul]
  rw [show b + 1 - 1 = b by omega]
  generalize hM : min (s - (b + 1) * t) (n - q) = M
  generalize hM' : min (s - (b + 1) * t) (n - (q + t)) = M'
  have h1 : M' ≤ M ∧ M - t ≤ M' := by omega
  have q1 : b * M' ≤ b * M := Int.mul_le_mul_of_nonneg_left h1.1 hb
  have q2 : b * (M - t) ≤ b * M' := Int.mul_le_mul_of_nonneg_left h1.2 hb
  have q3 : b * (M - t) = b * M - b * t := Int.mul_sub ..
  rw [e3]
  generalize (b * t + t) * (d + 1) = p at *
  omega
end
end MV

set_option Elab.async false
set_option linter.all false
set_option maxRecDepth 100000
set_option maxHeartbeats 4000000
namespace MV
open PySem
def b_law_keep_lot : SF :=
  (cSeq (cAsg (gT [2, 3, 4, 5, 6, 7]) (fV 0))
  (cSeq (cAsg (gN 8) (fB subD (fV 4) (fB mulD (fV 3) (fV 6))))
  (cSeq (cFor (fR rng1 (fCons (fB subD (fV 1) (fK (.int 1))) fNil)) (gN 9) (cAsg (gN 8) (fB addD (fB addD (fV 8) (fV 2)) (fV 6))))
  (cRet (fB addD (fV 8) (fB mulD (fV 6) (fB addD (fV 7) (fK (.int 2)))))))))
def m_law_keep_lot : List D → Sto → R D := fnM false 10 b_law_keep_lot
def b_law_keep_most : SF :=
  (cRet (fC (arg2 min2) (fCons (fB mulD (fB ixD (fV 0) (fK (.int 1))) (fFn 2 m_law_keep_lot (fCons (fV 0) (fCons (fK (.int 1)) fNil)))) (fCons (fFn 2 m_law_keep_lot (fCons (fV 0) (fCons (fB ixD (fV 0) (fK (.int 1))) fNil))) fNil))))
def m_law_keep_most : List D → Sto → R D := fnM false 1 b_law_keep_most
def b_law_keep_no_sizes : SF :=
  (cSeq (cAsg (gN 0) (fLst (fCons (fTup (fCons (fK .none) (fCons (fTup (fCons (fK (.str "sizes")) (fCons (fU negD (fK (.int 1))) fNil))) fNil))) (fCons (fTup (fCons (fTup (fCons (fK (.int 1)) (fCons (fK (.int 1)) (fCons (fK (.int 1)) (fCons (fK (.int 1)) (fCons (fK (.int 1)) fNil)))))) (fCons (fTup (fCons (fK (.str "sizes")) (fCons (fU negD (fK (.int 1))) fNil))) fNil))) (fCons (fTup (fCons (fLst (fCons (fK (.int 1)) (fCons (fK (.int 1)) (fCons (fK (.int 1)) (fCons (fK (.int 1)) (fCons (fK (.int 1)) (fCons (fK (.int 0)) fNil))))))) (fCons (fTup (fCons (fK (.str "sizes")) (fCons (fU negD (fK (.int 1))) fNil))) fNil))) fNil)))))
  (cSeq (cAsg (gN 0) (fB addD (fV 0) (fLst (fCons (fTup (fCons (fTup (fCons (fK (.int 2)) (fCons (fK (.int 1)) (fCons (fK (.int 1)) (fCons (fK (.int 2)) (fCons (fK (.int 1)) (fCons (fK (.int 9)) fNil))))))) (fCons (fTup (fCons (fK (.str "sizes")) (fCons (fK (.int 5)) fNil))) fNil))) (fCons (fTup (fCons (fTup (fCons (fK (.int 0)) (fCons (fK (.int 1)) (fCons (fK (.int 1)) (fCons (fK (.int 2)) (fCons (fK (.int 1)) (fCons (fK .none) fNil))))))) (fCons (fTup (fCons (fK (.str "sizes")) (fCons (fK (.int 0)) fNil))) fNil))) (fCons (fTup (fCons (fTup (fCons (fK (.int 2)) (fCons (fK (.bool true)) (fCons (fK (.int 1)) (fCons (fK (.int 2)) (fCons (fK (.int 1)) (fCons (fK (.int 0)) fNil))))))) (fCons (fTup (fCons (fK (.str "sizes")) (fCons (fK (.int 1)) fNil))) fNil))) fNil))))))
  (cSeq (cAsg (gN 0) (fB addD (fV 0) (fLst (fCons (fTup (fCons (fTup (fCons (fK (.int 2)) (fCons (fK (.int 2)) (fCons (fK (.int 1)) (fCons (fK (.int 2)) (fCons (fK (.int 1)) (fCons (fK (.int 0)) fNil))))))) (fCons (fTup (fCons (fK (.str "spares")) (fCons (fK (.int 1)) fNil))) fNil))) (fCons (fTup (fCons (fTup (fCons (fK (.int 2)) (fCons (fK (.int 2)) (fCons (fK (.int 1)) (fCons (fK (.int 2)) (fCons (fK (.int 1)) (fCons (fK (.int 4)) fNil))))))) (fCons (fTup (fCons (fK (.str "spares")) (fCons (fK (.int 1)) fNil))) fNil))) (fCons (fTup (fCons (fTup (fCons (fK (.int 2)) (fCons (fK (.int 1)) (fCons (fK (.int 1)) (fCons (fK (.int 2)) (fCons (fK (.int 1)) (fCons (fK (.int 2)) fNil))))))) (fCons (fTup (fCons (fK (.str "records")) (fCons (fK (.int 1)) fNil))) fNil))) fNil))))))
  (cRet (fB addD (fV 0) (fLst (fCons (fTup (fCons (fTup (fCons (fK (.int 10)) (fCons (fK (.int 6)) (fCons (fK (.int 6)) (fCons (fK (.int 2)) (fCons (fK (.int 1)) (fCons (fK (.int 0)) fNil))))))) (fCons (fTup (fCons (fK (.str "many")) (fCons (fK (.int 66)) fNil))) fNil))) (fCons (fTup (fCons (fTup (fCons (fK (.int 2)) (fCons (fK (.int 1)) (fCons (fK (.int 1)) (fCons (fK (.int 2)) (fCons (fK (.str "1")) (fCons (fK (.int 0)) fNil))))))) (fCons (fTup (fCons (fK (.str "sizes")) (fCons (fK (.int 4)) fNil))) fNil))) (fCons (fTup (fCons (fTup (fCons (fK (.int 2)) (fCons (fK (.int 1)) (fCons (fK (.int 61)) (fCons (fK (.int 2)) (fCons (fK (.int 1)) (fCons (fK (.int 0)) fNil))))))) (fCons (fTup (fCons (fK (.str "sizes")) (fCons (fK (.int 2)) fNil))) fNil))) fNil)))))))))
def m_law_keep_no_sizes : List D → Sto → R D := fnM false 1 b_law_keep_no_sizes
def hl_law_keep_heard : List (Str × Str) := ("BadSizes", "sizes") :: ("FewSpares", "spares") :: ("FewRecords", "records") :: ("TooMany", "many") :: ("BadMany", "bound") :: []
def b_check_many : SF :=
  (cIf (fNot (fT (fFn 3 m_is_between (fCons (fV 0) (fCons (fV 1) (fCons (fV 2) fNil)))))) (cRaise "BadMany" (fCons (fK (.int 0)) fNil)) cNx)
def m_check_many : List D → Sto → R D := fnM false 3 b_check_many
def b_law_keep_no_number : SF :=
  (cRet (fLst (fCons (fB subD (fV 0) (fK (.int 1))) (fCons (fB addD (fV 1) (fK (.int 1))) (fCons (fK .none) (fCons (fK (.bool true)) (fCons (fK (.bool false)) (fCons (fK (.str "1")) (fCons (fTup (fCons (fK (.int 1)) fNil)) (fCons (fB powD (fK (.int 10)) (fK (.int 20))) (fCons (fU negD (fB powD (fK (.int 10)) (fK (.int 20)))) fNil)))))))))))
def m_law_keep_no_number : List D → Sto → R D := fnM false 2 b_law_keep_no_number
end MV

set_option Elab.async false
set_option linter.all false
set_option maxRecDepth 100000
set_option maxHeartbeats 2000000
namespace MV
open PySem
local instance : Tbs := ⟨[]⟩
@[simp] theorem fHear_eq (tag : Str) (ls : List (Str × Str)) (fe : EF) (env : Ev) (st : Sto) : fHear tag ls fe env st = match fe env st with
  | .ok d s => mkTup [.p (.str tag), d] s
  | .exc y (.p w) s => match hearX ls y with
    | some nm => .ok (.p (.tuple [.str nm, w])) s
    | none => .bad
  | _ => .bad := rfl
/-- a def that leaves objects of its own behind -/
theorem fnM_cut {N : Nat} {f : SF} {ds : List D} {st st' ext : Sto} {x : PyData} (hc : CS st') (hl : st'.length = st.length) (h : f (startE N ds) st = .ret (.p x) (st' ++ ext)) : fnM false N f ds st = .ok (.p x) st' := by
  unfold fnM
  rw [h]
  show cutR st.length (.ok (.p x) (st' ++ ext)) = _
  have tk : (st' ++ ext).take st.length = st' := by rw [← hl]; simp
  simp only [cutR, tk]
  rw [if_pos ⟨by rw [List.length_append]; omega, by rw [← hl]; exact hc⟩]
theorem app_last {st : Sto} {ps : List PyData} {x : PyData} (h : ps.length + 1 ≤ lineN) : appD (.r st.length) [.p x] (st ++ [.lst (ps.map .p)]) = .ok (.p .none) (st ++ [.lst ((ps ++ [x]).map .p)]) := by
  have g : (st ++ [OB.lst (ps.map .p)])[st.length]? = some (.lst (ps.map .p)) := by simp
  simp only [appD, lstAt, g]
  rw [if_pos (by rw [List.length_map]; exact h)]
  congr 1
  rw [List.set_append_right _ _ (Nat.le_refl _)]
  simp
theorem tyL_last {st : Sto} {ps : List PyData} : tyL (st ++ [.lst (ps.map .p)]) (.r st.length) = true := by simp [tyL]
theorem tup_last {st : Sto} {ps : List PyData} : tupOf (.r st.length) (st ++ [.lst (ps.map .p)]) = .ok (.p (.tuple ps)) (st ++ [.lst (ps.map .p)]) := by
  simp [tupOf, dat]
section
variable {n a s w t d : Int} {st : Sto}
def lotK (n a s t d j : Int) : Int := s - a * t + (j - 1) * (n + t) + t * (d + 2)
def klBody : SF := (cAsg (gN 8) (fB addD (fB addD (fV 8) (fV 2)) (fV 6)))
theorem m_keep_lot (hc : CS st) {j : Int} (a1 : 1 ≤ a) (a2 : a ≤ 6) (t1 : 1 ≤ t) (t2 : t ≤ 8) (j1 : 1 ≤ j) (j2 : j ≤ 6) : m_law_keep_lot [.p (szD n a s w t d), .p (.int j)] st = .ok (.p (.int (lotK n a s t d j))) st := by
  obtain ⟨K, hK⟩ : ∃ K : Nat, (K : Int) = j - 1 := ⟨(j - 1).toNat, by omega⟩
  obtain ⟨env', st', el, hst, l, he⟩ := loop_rng (j := 9) (f := klBody) (fun i env q => q = st ∧ ∃ l, env = [some (.p (szD n a s w t d)), oi j, oi n, oi a, oi s, oi w, oi t, oi d, oi (s - a * t + i * (n + t)), l]) K 0
    (fun i env q h1 h2 ⟨hq, l, he⟩ => by
      subst hq he
      refine ⟨_, q, rfl, rfl, oi i, ?_⟩
      have : s - a * t + i * (n + t) + n + t = s - a * t + (i + 1) * (n + t) := by rw [Int.add_mul, Int.one_mul]; omega
      simp [this])
    (env := [some (.p (szD n a s w t d)), oi j, oi n, oi a, oi s, oi w, oi t, oi d, oi (s - a * t), none]) (st := st) ⟨rfl, none, by simp⟩
  subst hst he
  have rg := rng1_i (j := j - 1) st' (by omega)
  rw [show (j - 1).toNat = K by omega] at rg
  unfold klBody at el
  have e0 : s - a * t + (0 + (K : Int)) * (n + t) + t * (d + 2) = lotK n a s t d j := by unfold lotK; rw [show (0 : Int) + K = j - 1 by omega]
  refine fnM_ret hc rfl ?_
  simp only [Int.zero_add] at el e0
  simp [b_law_keep_lot, startE, rg, el, mulD_i (mok (i := a) (j := t) (by omega) (by omega)), mulD_i (mok (i := t) (j := d + 2) (by omega) (by omega)), e0]
theorem most_lots : min (a * lotK n a s t d 1) (lotK n a s t d a) = if s - a * t ≤ n - t * (d + 1) ∨ a = 1 then min (a * lotK n a s t d 1) (lotK n a s t d a) else min (a * lotK n a s t d 1) (lotK n a s t d a) := by split <;> rfl
theorem most_eq_lots (a1 : 1 ≤ a) : mostZ n a s t d = min (a * lotK n a s t d 1) (lotK n a s t d a) := by
  obtain ⟨b, rfl, hb⟩ := a1_cases a1
  have h1 : (b + 1) * lotK n (b + 1) s t d 1 = s + (b + 1) * t * (d + 1) + b * (s - (b + 1) * t) := by unfold lotK; grind
  have h2 : lotK n (b + 1) s t d (b + 1) = s + (b + 1) * t * (d + 1) + b * (n - t * (d + 1)) := by unfold lotK; grind
  rw [h1, h2]
  unfold mostZ
  rw [show b + 1 - 1 = b by omega]
  by_cases c : s - (b + 1) * t ≤ n - t * (d + 1)
  · have q : b * (s - (b + 1) * t) ≤ b * (n - t * (d + 1)) := Int.mul_le_mul_of_nonneg_left c hb
    rw [show min (s - (b + 1) * t) (n - t * (d + 1)) = s - (b + 1) * t by omega]
    omega
  · have q : b * (n - t * (d + 1)) ≤ b * (s - (b + 1) * t) := Int.mul_le_mul_of_nonneg_left (by omega) hb
    rw [show min (s - (b + 1) * t) (n - t * (d + 1)) = n - t * (d + 1) by omega]
    omega
theorem m_keep_most (hc : CS st) (a1 : 1 ≤ a) (a2 : a ≤ 6) (t1 : 1 ≤ t) (t2 : t ≤ 8) : m_law_keep_most [.p (szD n a s w t d)] st = .ok (.p (.int (mostZ n a s t d))) st := by
  have e1 := m_keep_lot (n := n) (s := s) (w := w) (d := d) hc a1 a2 t1 t2 (j := 1) (by omega) (by omega)
  have e2 := m_keep_lot (n := n) (s := s) (w := w) (d := d) hc a1 a2 t1 t2 (j := a) a1 a2
  have i1 : ixD (.p (szD n a s w t d)) (.p (.int 1)) st = .ok (.p (.int a)) st := ixD_t (i := 1) rfl
  rw [most_eq_lots a1]
  exact fnM_ret hc rfl (by simp [b_law_keep_most, startE, i1, e1, e2, mulD_i (mok (i := a) (j := lotK n a s t d 1) (by omega) (by omega))])
end
/-! ## what is no sizes, and what is due -/
def noSz : List (PyData × (Str × Int)) := [(.none, ("sizes", -1)), (.tuple [.int 1, .int 1, .int 1, .int 1, .int 1], ("sizes", -1)), (.list [.int 1, .int 1, .int 1, .int 1, .int 1, .int 0], ("sizes", -1)),
  (.tuple [.int 2, .int 1, .int 1, .int 2, .int 1, .int 9], ("sizes", 5)), (.tuple [.int 0, .int 1, .int 1, .int 2, .int 1, .none], ("sizes", 0)), (.tuple [.int 2, .bool true, .int 1, .int 2, .int 1, .int 0], ("sizes", 1)),
  (.tuple [.int 2, .int 2, .int 1, .int 2, .int 1, .int 0], ("spares", 1)), (.tuple [.int 2, .int 2, .int 1, .int 2, .int 1, .int 4], ("spares", 1)), (.tuple [.int 2, .int 1, .int 1, .int 2, .int 1, .int 2], ("records", 1)),
  (.tuple [.int 10, .int 6, .int 6, .int 2, .int 1, .int 0], ("many", 66)), (.tuple [.int 2, .int 1, .int 1, .int 2, .str "1", .int 0], ("sizes", 4)), (.tuple [.int 2, .int 1, .int 61, .int 2, .int 1, .int 0], ("sizes", 2))]
def dueT (q : Str × Int) : PyData := .tuple [.str q.1, .int q.2]
def noSzD : List PyData := noSz.map fun p => .tuple [p.1, dueT p.2]
theorem m_no_sizes {st : Sto} (hc : CS st) : m_law_keep_no_sizes [] st = .ok (.p (.list noSzD)) st := by
  have l1 : 1 ≤ lineN := by decide
  have l2 : 2 ≤ lineN := by decide
  have l3 : 3 ≤ lineN := by decide
  have l5 : 5 ≤ lineN := by decide
  have l6 : 6 ≤ lineN := by decide
  have l9 : 9 ≤ lineN := by decide
  have l12 : 12 ≤ lineN := by decide
  exact fnM_ret hc rfl (by simp [b_law_keep_no_sizes, startE, mkTup, mkLst, l1, l2, l3, l5, l6, l9, l12, addD, noSzD, noSz, dueT])
/-- the label of each class -/
def labX (q : Str × Int) : Str × Int := ((hearX hl_law_keep_heard q.1).getD "", q.2)
theorem noSz_due : ∀ p ∈ noSz, topPl p.1 = true ∧ (madeX p.1).map labX = some p.2 := by decide +kernel
theorem noSz_what {p : PyData × (Str × Int)} (h : p ∈ noSz) : topPl p.1 = true ∧ ∃ c i nm, madeX p.1 = some (c, i) ∧ hearX hl_law_keep_heard c = some nm ∧ dueT p.2 = .tuple [.str nm, .int i] := by
  obtain ⟨h1, h2⟩ := noSz_due p h
  refine ⟨h1, ?_⟩
  cases hm : madeX p.1 with
  | none => rw [hm] at h2; cases h2
  | some q =>
    obtain ⟨c, i⟩ := q
    rw [hm] at h2
    have h2 : labX (c, i) = p.2 := Option.some.inj h2
    have hn : ∃ nm, hearX hl_law_keep_heard c = some nm := by rcases madeX_cls hm with e | e | e | e <;> subst e <;> exact ⟨_, rfl⟩
    obtain ⟨nm, hn⟩ := hn
    refine ⟨c, i, nm, rfl, hn, ?_⟩
    rw [← h2]
    simp [labX, dueT, hn]
theorem okR_due {p : PyData × (Str × Int)} (h : p ∈ noSz) : okR (dueT p.2) = true := by
  have : ∀ p ∈ noSz, okR (dueT p.2) = true := by decide +kernel
  exact this p h
theorem noSzD_mem {x : PyData} (h : x ∈ noSzD) : ∃ p ∈ noSz, x = .tuple [p.1, dueT p.2] := by
  obtain ⟨p, hp, e⟩ := List.mem_map.mp h
  exact ⟨p, hp, e.symm⟩
/-- a comprehension whose test is never kept -/
theorem comp_nil {t : TF} {ft : FT} {fe : EF} {vs : List Nat} {fi : FI} {env : Ev} {st : Sto} {xs : List PyData} (hi : fi env st = .ok (xs.map .p) st) (hc : CS st) (hl : xs.length ≤ lineN)
    (h : ∀ x ∈ xs, ∃ e1, t (.p x) (wipeE env vs) = some e1 ∧ ∀ s, CS s → ft e1 s = .ok false s) : fLc false vs fi t ft fe env st = .ok (.p (.list [])) st := by
  have := comp_pure (t := t) (ft := ft) (fe := fe) (vs := vs) (fi := fi) (env := env) (st := st) (xs := xs) (fun _ => false) id hi hc hl (fun x hx => by
    obtain ⟨e1, h1, h2⟩ := h x hx
    exact ⟨e1, h1, fun s hs => ⟨h2 s hs, fun z => by cases z⟩⟩)
  rwa [List.filter_eq_nil_iff.mpr (fun _ _ => by simp)] at this
/-- a loop over data that keeps the store -/
theorem loop_st {t : TF} {f : SF} (I : Ev → Prop) {st : Sto} (L : List PyData) (hs : ∀ x ∈ L, ∀ env, I env → ∃ env1, t (.p x) env = some env1 ∧ ∃ env2, f env1 st = .nx env2 st ∧ I env2) {env : Ev} (h : I env) : ∃ env', loopS t f (L.map .p) env st = .nx env' st ∧ I env' := by
  obtain ⟨env', st', e, h1, h2⟩ := loop_inv (fun e s => s = st ∧ I e) (L.map .p) (fun d hd env s h => by
    obtain ⟨x, hx, rfl⟩ := List.mem_map.mp hd
    obtain ⟨rfl, h⟩ := h
    obtain ⟨env1, e1, env2, e2, h2⟩ := hs x hx env h
    exact ⟨env1, e1, env2, s, e2, rfl, h2⟩) (env := env) (st := st) ⟨rfl, h⟩
  subst h1
  exact ⟨env', e, h2⟩
end MV

set_option Elab.async false
set_option linter.all false
set_option maxRecDepth 100000
set_option maxHeartbeats 4000000
namespace MV
open PySem
def b_check_sworn : SF :=
  (cSeq (cIf (fNot (fT (fU (isiD "tuple") (fV 1)))) (cRaise "BadSworn" (fCons (fU negD (fK (.int 1))) fNil)) cNx)
  (cSeq (cAsg (gN 2) (fU negD (fK (.int 1))))
  (cSeq (cFor (fR rng1 (fCons (fC (arg1 lenD) (fCons (fV 1) fNil)) fNil)) (gN 3) (cSeq (cIf (fNot (fT (fFn 3 m_is_between (fCons (fB ixD (fV 1) (fV 3)) (fCons (fB addD (fV 2) (fK (.int 1))) (fCons (fB subD (fB ixD (fV 0) (fK (.int 0))) (fK (.int 1))) fNil)))))) (cRaise "BadSworn" (fCons (fV 3) fNil)) cNx)
  (cAsg (gN 2) (fB ixD (fV 1) (fV 3)))))
  (cSeq (cAsg (gN 4) (fB mulD (fB ixD (fV 0) (fK (.int 4))) (fB addD (fB ixD (fV 0) (fK (.int 5))) (fK (.int 1)))))
  (cIf (fBT gtD (fV 4) (fB subD (fB ixD (fV 0) (fK (.int 0))) (fC (arg1 lenD) (fCons (fV 1) fNil)))) (cRaise "FewRecords" (fCons (fB addD (fB subD (fV 4) (fB ixD (fV 0) (fK (.int 0)))) (fC (arg1 lenD) (fCons (fV 1) fNil))) fNil)) cNx)))))
def m_check_sworn : List D → Sto → R D := fnM false 5 b_check_sworn
def b_made_sworn : SF :=
  (cSeq (cExpr (fFn 2 m_check_sworn (fCons (fFn 1 m_made_sizes (fCons (fV 0) fNil)) (fCons (fV 1) fNil))))
  (cRet (fV 1)))
def m_made_sworn : List D → Sto → R D := fnM false 2 b_made_sworn
def b_rest_of : SF :=
  (cSeq (cAsg (gT [2, 3, 4, 5, 6, 7]) (fV 0))
  (cRet (fTup (fCons (fB subD (fV 2) (fC (arg1 lenD) (fCons (fV 1) fNil))) (fCons (fV 3) (fCons (fB addD (fV 4) (fB mulD (fC (arg1 lenD) (fCons (fV 1) fNil)) (fV 3))) (fCons (fV 5) (fCons (fV 6) (fCons (fV 7) fNil)))))))))
def m_rest_of : List D → Sto → R D := fnM false 8 b_rest_of
def b_sworn_rest : SF :=
  (cSeq (cExpr (fFn 2 m_made_sworn (fCons (fV 0) (fCons (fV 1) fNil))))
  (cRet (fFn 2 m_rest_of (fCons (fV 0) (fCons (fV 1) fNil)))))
def m_sworn_rest : List D → Sto → R D := fnM false 2 b_sworn_rest
def b_is_sworn : SF :=
  (cRet (fLet refL (fFn 2 m_made_sworn (fCons (fV 0) (fCons (fV 1) fNil)))))
def m_is_sworn : List D → Sto → R D := fnM false 2 b_is_sworn
def b_law_turned : SF :=
  (cSeq (cPar [2, 3] (fCons (fLr1 true (fV 1)) (fCons (fRef fNil) fNil)))
  (cSeq (cFor (fR rng1 (fCons (fV 1) fNil)) (gN 4) (cExpr (fM appD (fV 3) (fCons (fM popAt (fV 2) (fCons (fFn 2 m_law_draw (fCons (fV 0) (fCons (fC (arg1 lenD) (fCons (fV 2) fNil)) fNil))) fNil)) fNil))))
  (cRet (fV 3))))
def m_law_turned : List D → Sto → R D := fnM false 5 b_law_turned
def b_block_count : SF :=
  (cRet (fFn 1 m_blocks_of (fCons (fFn 1 m_made_sizes (fCons (fV 0) fNil)) fNil)))
def m_block_count : List D → Sto → R D := fnM false 1 b_block_count
end MV

set_option Elab.async false
set_option linter.all false
set_option maxRecDepth 100000
set_option maxHeartbeats 2000000
namespace MV
open PySem
local instance : Tbs := ⟨[]⟩
/-! ## told blocks: made_sworn, is_sworn, sworn_rest of any thing -/
def valI : PyData → Int
  | .int i => i
  | _ => 0
/-- the first one that does not lie between -/
def scanS (hi : Int) : Int → Nat → List PyData → Option Nat
  | _, _, [] => none
  | lo, i, x :: r => if betw x lo hi then scanS hi (valI x + 1) (i + 1) r else some i
def swX (n t d : Int) : PyData → Option (Str × Int)
  | .tuple ds => match scanS (n - 1) 0 0 ds with
    | some i => some ("BadSworn", (i : Int))
    | none => if n - (ds.length : Int) < t * (d + 1) then some ("FewRecords", t * (d + 1) - n + (ds.length : Int)) else none
  | _ => some ("BadSworn", -1)
theorem ix_mid (pre suf : List PyData) (x : PyData) (st : Sto) : ixD (.p (.tuple (pre ++ x :: suf))) (.p (.int (pre.length : Nat))) st = .ok (.p x) st := by
  simp [ixD, itemsD, L2.atI, L2.ixN]
  rw [if_pos (by omega)]
  simp
theorem rl1 : Str.ofString "BadSworn" ∈ refL := by decide
theorem rl2 : Str.ofString "FewRecords" ∈ refL := by decide
theorem rl3 : Str.ofString "BadSizes" ∈ refL := by decide
theorem rl4 : Str.ofString "FewSpares" ∈ refL := by decide
theorem rl5 : Str.ofString "TooMany" ∈ refL := by decide
theorem rl6 : Str.ofString "BadMany" ∈ refL := by decide
section
variable {n a s w t d : Int} {st : Sto}
def ckBody : SF := (cSeq (cIf (fNot (fT (fFn 3 m_is_between (fCons (fB ixD (fV 1) (fV 3)) (fCons (fB addD (fV 2) (fK (.int 1))) (fCons (fB subD (fB ixD (fV 0) (fK (.int 0))) (fK (.int 1))) fNil)))))) (cRaise "BadSworn" (fCons (fV 3) fNil)) cNx)
  (cAsg (gN 2) (fB ixD (fV 1) (fV 3))))
def ckE (z told : PyData) (last : Int) (l : Option D) : Ev := [some (.p z), some (.p told), oi last, l, none]
theorem sz_at0 (st : Sto) : ixD (.p (szD n a s w t d)) (.p (.int 0)) st = .ok (.p (.int n)) st := rfl
theorem sz_at4 (st : Sto) : ixD (.p (szD n a s w t d)) (.p (.int 4)) st = .ok (.p (.int t)) st := rfl
theorem sz_at5 (st : Sto) : ixD (.p (szD n a s w t d)) (.p (.int 5)) st = .ok (.p (.int d)) st := rfl
theorem ck_loop (hc : CS st) {ds : List PyData} : ∀ (suf pre : List PyData) (last : Int) (l : Option D), allPl suf = true → pre ++ suf = ds →
    (scanS (n - 1) (last + 1) pre.length suf = none → ∃ last' l', loopS (gN 3) ckBody ((rngL (pre.length : Nat) suf.length).map .p) (ckE (szD n a s w t d) (.tuple ds) last l) st = .nx (ckE (szD n a s w t d) (.tuple ds) last' l') st) ∧
    (∀ i, scanS (n - 1) (last + 1) pre.length suf = some i → ∃ env', loopS (gN 3) ckBody ((rngL (pre.length : Nat) suf.length).map .p) (ckE (szD n a s w t d) (.tuple ds) last l) st = .exc "BadSworn" (.p (.int i)) env' st)
  | [], pre, last, l, _, _ => ⟨fun _ => ⟨last, l, rfl⟩, fun i h => by cases h⟩
  | x :: suf, pre, last, l, hp, hd => by
    simp only [allPl, Bool.and_eq_true] at hp
    have ex : ixD (.p (.tuple ds)) (.p (.int (pre.length : Nat))) st = .ok (.p x) st := by rw [← hd]; exact ix_mid ..
    have eb := m_between_x (st := st) hc hp.1 (last + 1) (n - 1)
    rw [List.length_cons, rngL_succ, List.map_cons]
    unfold loopS
    simp only [gN_eq, scanS]
    cases hb : betw x (last + 1) (n - 1) with
    | false =>
      rw [hb] at eb
      rw [if_neg Bool.false_ne_true]
      refine ⟨fun z => (by cases z), fun i z => ?_⟩
      cases z
      have : ckBody ((ckE (szD n a s w t d) (.tuple ds) last l).set 3 (some (.p (.int (pre.length : Nat))))) st = .exc "BadSworn" (.p (.int (pre.length : Nat))) (ckE (szD n a s w t d) (.tuple ds) last (some (.p (.int (pre.length : Nat))))) st := by
        simp [ckBody, ckE, oi, ex, eb, sz_at0]
      exact ⟨_, by rw [this]⟩
    | true =>
      rw [hb] at eb
      rw [if_pos rfl]
      obtain ⟨v, rfl, _, _⟩ := betw_int hb
      have e : ckBody ((ckE (szD n a s w t d) (.tuple ds) last l).set 3 (some (.p (.int (pre.length : Nat))))) st = .nx (ckE (szD n a s w t d) (.tuple ds) v (some (.p (.int (pre.length : Nat))))) st := by
        simp [ckBody, ckE, oi, ex, eb, sz_at0]
      rw [e]
      have ih := ck_loop hc suf (pre ++ [.int v]) v (some (.p (.int (pre.length : Nat)))) hp.2 (by simpa using hd)
      rw [List.length_append, List.length_singleton] at ih
      rw [show ((pre.length + 1 : Nat) : Int) = (pre.length : Int) + 1 by omega] at ih
      exact ih
theorem no_tup (hc : CS st) {x : PyData} (hx : swX n t d x = some (("BadSworn" : Str), (-1 : Int))) {T : String} (h : tyOf st (.p x) = T) (h0 : T ≠ "") (h1 : L2.kitB T "tuple" = some false) : m_check_sworn [.p (szD n a s w t d), .p x] st = orX .none (swX n t d x) st := by
  rw [hx]
  exact fnM_exc hc rfl (env := [some (.p (szD n a s w t d)), some (.p x), none, none, none]) (by simp [b_check_sworn, startE, h, h0, h1])
theorem m_check_sw (hc : CS st) (z : Sz n a s w t d) {x : PyData} (h : topPl x = true) (hl : ∀ ds, x = .tuple ds → ds.length ≤ 1000) : m_check_sworn [.p (szD n a s w t d), .p x] st = orX .none (swX n t d x) st := by
  simp only [topPl, Bool.and_eq_true] at h
  cases x with
  | tuple ds =>
    have rg := rng1_i (j := (ds.length : Int)) st (by have := hl ds rfl; omega)
    rw [Int.toNat_natCast] at rg
    have lp := ck_loop (n := n) (a := a) (s := s) (w := w) (t := t) (d := d) (st := st) hc (ds := ds) ds [] (-1) none h.2 rfl
    rw [show (-1 : Int) + 1 = 0 by rfl, List.length_nil, show ((0 : Nat) : Int) = 0 by rfl] at lp
    skip
    unfold ckBody ckE oi at lp
    have := z.t1; have := z.t2
    have mm := mulD_i (st := st) (mok (i := t) (j := d + 1) (by omega) (by omega))
    simp only [swX]
    cases hs : scanS (n - 1) 0 0 ds with
    | some i =>
      obtain ⟨env', e⟩ := lp.2 i hs
      exact fnM_exc hc rfl (env := env') (by simp [b_check_sworn, startE, kb_tt, rg, e])
    | none =>
      obtain ⟨v, l', e⟩ := lp.1 hs
      show m_check_sworn _ st = orX _ (if _ then _ else _) st
      by_cases c : n - (ds.length : Int) < t * (d + 1)
      · rw [if_pos c]
        exact fnM_exc hc rfl (env := [some (.p (szD n a s w t d)), some (.p (.tuple ds)), some (.p (.int v)), l', some (.p (.int (t * (d + 1))))]) (by simp [b_check_sworn, startE, kb_tt, rg, e, sz_at0, sz_at4, sz_at5, mm, c])
      · rw [if_neg c]
        exact fnM_nx hc rfl (env := [some (.p (szD n a s w t d)), some (.p (.tuple ds)), some (.p (.int v)), l', some (.p (.int (t * (d + 1))))]) (by simp [b_check_sworn, startE, kb_tt, rg, e, sz_at0, sz_at4, sz_at5, mm, c])
  | dict _ => cases h.1
  | none => exact no_tup (T := "NoneType") hc rfl rfl (by decide) kb_nt
  | bool b => exact no_tup (T := "bool") hc rfl rfl (by decide) kb_bt
  | int i => exact no_tup (T := "int") hc rfl rfl (by decide) kb_it
  | str x => exact no_tup (T := "str") hc rfl rfl (by decide) kb_st
  | list l => exact no_tup (T := "list") hc rfl rfl (by decide) kb_lt
theorem m_made_sw (hc : CS st) (z : Sz n a s w t d) {x : PyData} (h : topPl x = true) (hl : ∀ ds, x = .tuple ds → ds.length ≤ 1000) : m_made_sworn [.p (szD n a s w t d), .p x] st = orX x (swX n t d x) st := by
  have e1 := m_made_eq hc z
  have e2 := m_check_sw hc z h hl
  cases hx : swX n t d x with
  | none =>
    rw [hx] at e2
    simp only [orX] at e2
    exact fnM_ret hc rfl (by simp [b_made_sworn, startE, e1, e2])
  | some q =>
    obtain ⟨c, i⟩ := q
    rw [hx] at e2
    simp only [orX] at e2
    exact fnM_exc hc rfl (env := [some (.p (szD n a s w t d)), some (.p x)]) (by simp [b_made_sworn, startE, e1, e2])
/-- refused for the sizes -/
theorem m_made_sw_no (hc : CS st) {x y : PyData} {c : Str} {i : Int} (h : topPl x = true) (hx : madeX x = some (c, i)) : m_made_sworn [.p x, .p y] st = .exc c (.p (.int i)) st := by
  have e := m_made_x hc h
  rw [hx] at e
  simp only [orX] at e
  exact fnM_exc hc rfl (env := [some (.p x), some (.p y)]) (by simp [b_made_sworn, startE, e])
theorem swX_cls {x : PyData} {c : Str} {i : Int} (h : swX n t d x = some (c, i)) : c = "BadSworn" ∨ c = "FewRecords" := by
  unfold swX at h
  split at h
  · split at h
    · cases h; exact .inl rfl
    · split at h
      · cases h; exact .inr rfl
      · cases h
  · cases h; exact .inl rfl
theorem m_is_sw (hc : CS st) (z : Sz n a s w t d) {x : PyData} (h : topPl x = true) (hl : ∀ ds, x = .tuple ds → ds.length ≤ 1000) : m_is_sworn [.p (szD n a s w t d), .p x] st = .ok (.p (.bool (swX n t d x).isNone)) st := by
  have e := m_made_sw hc z h hl
  cases hx : swX n t d x with
  | none =>
    rw [hx] at e
    simp only [orX] at e
    exact fnM_ret hc rfl (by simp [b_is_sworn, startE, e])
  | some q =>
    obtain ⟨c, i⟩ := q
    rw [hx] at e
    simp only [orX] at e
    rcases swX_cls hx with rfl | rfl
    · exact fnM_ret hc rfl (by simp [b_is_sworn, startE, e, rl1, rl2, rl3, rl4, rl5, rl6])
    · exact fnM_ret hc rfl (by simp [b_is_sworn, startE, e, rl1, rl2, rl3, rl4, rl5, rl6])
theorem m_is_sw_no (hc : CS st) {x y : PyData} {c : Str} {i : Int} (h : topPl x = true) (hx : madeX x = some (c, i)) : m_is_sworn [.p x, .p y] st = .ok (.p (.bool false)) st := by
  have e := m_made_sw_no (y := y) hc h hx
  rcases madeX_cls hx with rfl | rfl | rfl | rfl <;> exact fnM_ret hc rfl (by simp [b_is_sworn, startE, e, rl1, rl2, rl3, rl4, rl5, rl6])
/-- what is left when k blocks are told -/
theorem Sz.rest (z : Sz n a s w t d) {k : Int} (h0 : 0 ≤ k) (h : t * (d + 1) ≤ n - k) : Sz (n - k) a (s + k * a) w t d := by
  obtain ⟨n1, n2, a1, a2, s1, s2, w1, w2, t1, t2, d1, d2, sp, re, bl⟩ := z
  have p1 : 1 * 1 ≤ t * (d + 1) := Int.mul_le_mul t1 (by omega) (by omega) (by omega)
  have p2 : 0 ≤ k * a := Int.mul_nonneg h0 (by omega)
  have p3 : 0 ≤ (n - k) * a := Int.mul_nonneg (by omega) (by omega)
  have p4 : (n - k) * a + k * a = n * a := by rw [← Int.add_mul, Int.sub_add_cancel]
  constructor <;> omega
theorem swX_none {x : PyData} (h : swX n t d x = none) : ∃ ds, x = .tuple ds ∧ scanS (n - 1) 0 0 ds = none ∧ t * (d + 1) ≤ n - (ds.length : Int) := by
  unfold swX at h
  split at h
  · rename_i ds
    split at h
    · cases h
    · rename_i e
      split at h
      · cases h
      · exact ⟨ds, rfl, e, by omega⟩
  · cases h
theorem m_rest (hc : CS st) (z : Sz n a s w t d) {ds : List PyData} (h : t * (d + 1) ≤ n - (ds.length : Int)) : m_rest_of [.p (szD n a s w t d), .p (.tuple ds)] st = .ok (.p (szD (n - (ds.length : Int)) a (s + (ds.length : Int) * a) w t d)) st := by
  obtain ⟨n1, n2, a1, a2, s1, s2, w1, w2, t1, t2, d1, d2, sp, re, bl⟩ := z
  have l6 : 6 ≤ lineN := by decide
  exact fnM_ret hc rfl (by simp [b_rest_of, startE, mkTup, l6, mulD_i (mok' (i := (ds.length : Int)) (j := a) (by omega) (by omega))])
theorem m_sw_rest (hc : CS st) (z : Sz n a s w t d) {ds : List PyData} (h : allPl ds = true) (hl : ds.length ≤ 1000) (hx : swX n t d (.tuple ds) = none) : m_sworn_rest [.p (szD n a s w t d), .p (.tuple ds)] st = .ok (.p (szD (n - (ds.length : Int)) a (s + (ds.length : Int) * a) w t d)) st := by
  have e1 := m_made_sw (st := st) hc z (x := .tuple ds) (by simpa [topPl, plainP] using h) (fun _ q => by cases q; exact hl)
  rw [hx] at e1
  simp only [orX] at e1
  obtain ⟨_, e, _, hk⟩ := swX_none hx
  cases e
  have e2 := m_rest hc z hk
  exact fnM_ret hc rfl (by simp [b_sworn_rest, startE, e1, e2])
theorem m_sw_rest_no (hc : CS st) {x y : PyData} {c : Str} {v : D} (h : m_made_sworn [.p x, .p y] st = .exc c v st) (hv : ∃ w, v = .p w) : m_sworn_rest [.p x, .p y] st = .exc c v st := by
  obtain ⟨w, rfl⟩ := hv
  exact fnM_exc hc rfl (env := [some (.p x), some (.p y)]) (by simp [b_sworn_rest, startE, h])
theorem m_count_eq (hc : CS st) (z : Sz n a s w t d) : m_block_count [.p (szD n a s w t d)] st = .ok (.p (.int (n * a + s))) st := by
  have e1 := m_made_eq hc z
  have e2 := m_blocks_eq hc z
  exact fnM_ret hc rfl (by simp [b_block_count, startE, e1, e2])
/-! ## numbers in a row, and what may be shown -/
theorem scan_ints {hi : Int} : ∀ (ds : List PyData) (lo : Int) (i : Nat), 0 ≤ lo → scanS hi lo i ds = none → ∃ is : List Int, ds = is.map .int ∧ ∀ v ∈ is, 0 ≤ v ∧ v ≤ hi
  | [], _, _, _, _ => ⟨[], rfl, fun v h => by cases h⟩
  | x :: r, lo, i, h0, h => by
    simp only [scanS] at h
    cases hb : betw x lo hi with
    | false => rw [hb, if_neg Bool.false_ne_true] at h; cases h
    | true =>
      rw [hb, if_pos rfl] at h
      obtain ⟨v, rfl, h1, h2⟩ := betw_int hb
      obtain ⟨is, rfl, hv⟩ := scan_ints r (v + 1) (i + 1) (by omega) h
      exact ⟨v :: is, rfl, fun u hu => by
        rcases List.mem_cons.mp hu with rfl | hu
        · omega
        · exact hv u hu⟩
theorem scan_of {hi : Int} : ∀ (is : List Int) (lo : Int) (i : Nat), (∀ v ∈ is, lo ≤ v ∧ v ≤ hi) → is.Pairwise (· < ·) → scanS hi lo i (is.map .int) = none
  | [], _, _, _, _ => rfl
  | v :: r, lo, i, h, hp => by
    obtain ⟨h1, h2⟩ := h v (.head _)
    obtain ⟨p1, p2⟩ := List.pairwise_cons.mp hp
    simp only [List.map_cons, scanS, betw, valI, h1, h2, decide_true, Bool.and_self, if_true]
    exact scan_of r (v + 1) (i + 1) (fun u hu => ⟨by have := p1 u hu; omega, (h u (.tail _ hu)).2⟩) p2
theorem scan_lt {hi : Int} : ∀ (ds : List PyData) (lo : Int) (i j : Nat), scanS hi lo i ds = some j → j < i + ds.length
  | [], _, _, _, h => by cases h
  | x :: r, lo, i, j, h => by
    simp only [scanS] at h
    split at h
    · have := scan_lt r _ (i + 1) j h
      rw [List.length_cons]; omega
    · cases h
      rw [List.length_cons]; omega
theorem shorts_ints {is : List Int} (h : ∀ v ∈ is, -1000000000 ≤ v ∧ v ≤ 1000000000) : shortIs (is.map .int) = true := by
  induction is with
  | nil => rfl
  | cons v r ih =>
    obtain ⟨h1, h2⟩ := h v (.head _)
    have h3 : v.natAbs < 10 ^ 31 := Nat.lt_of_lt_of_le (show v.natAbs < 1000000001 by omega) (by decide)
    simp only [List.map_cons, shortIs, shortI, h3, decide_true, Bool.true_and]
    exact ih fun u hu => h u (.tail _ hu)
theorem bulk_ints (is : List Int) : PyData.bulkAll (is.map .int) = is.length := by
  induction is with
  | nil => rfl
  | cons v r ih => simp only [List.map_cons, PyData.bulkAll, PyData.bulk, ih, List.length_cons]; omega
theorem shorts_i {i : Int} (h : -1000000000 ≤ i) (h' : i ≤ 1000000000) : i.natAbs < 10 ^ 31 := Nat.lt_of_lt_of_le (show i.natAbs < 1000000001 by omega) (by decide)
theorem okR_told {x : Str} {is : List Int} (hx : PyData.strOk x = true ∧ x.cps.size ≤ 100) (h : ∀ v ∈ is, -1000000000 ≤ v ∧ v ≤ 1000000000) (hl : is.length ≤ 1000) : okR (.tuple [.str x, .tuple (is.map .int)]) = true := by
  simp [okR, SeqAt.shaped, PyData.canLay0, PyData.canLayAll0, PyData.depth, PyData.depthAll, shortI, shortIs, PyData.bulk, PyData.bulkAll, lay_ints, depth_ints, shorts_ints h, bulk_ints, hx.1]
  have := hx.2
  omega
theorem okR_why {x : Str} {i : Int} (hx : PyData.strOk x = true ∧ x.cps.size ≤ 100) (h : -1000000000 ≤ i) (h' : i ≤ 1000000000) : okR (.tuple [.str x, .int i, .bool true]) = true := by
  have := shorts_i h h'
  simp [okR, SeqAt.shaped, PyData.canLay0, PyData.canLayAll0, PyData.depth, PyData.depthAll, shortI, shortIs, PyData.bulk, PyData.bulkAll, hx.1]
  have := hx.2
  omega
theorem okR_sz (z : Sz n a s w t d) : okR (szD n a s w t d) = true := by
  obtain ⟨n1, n2, a1, a2, s1, s2, w1, w2, t1, t2, d1, d2, sp, re, bl⟩ := z
  simp [okR, szD, SeqAt.shaped, PyData.canLay0, PyData.canLayAll0, PyData.depth, PyData.depthAll, shortI, shortIs, PyData.bulk, PyData.bulkAll]
  omega
end
end MV

set_option Elab.async false
set_option linter.all false
set_option maxRecDepth 100000
set_option maxHeartbeats 2000000
namespace MV
open PySem
local instance : Tbs := ⟨[]⟩
/-! ## numbers turned about -/
def upI (m : Nat) : List Int := (List.range m).map fun i : Nat => 0 + (i : Int)
theorem upI_len (m : Nat) : (upI m).length = m := by simp [upI]
theorem upI_rng (m : Nat) : rngL 0 m = (upI m).map .int := by simp [rngL, upI]
theorem upI_mem {m : Nat} {v : Int} (h : v ∈ upI m) : 0 ≤ v ∧ v < m := by
  obtain ⟨i, hi, rfl⟩ := List.mem_map.mp h
  have := List.mem_range.mp hi
  omega
theorem upI_lt (m : Nat) : (upI m).Pairwise (· < ·) := by
  refine List.pairwise_map.mpr (List.pairwise_lt_range.imp fun h => ?_)
  omega
theorem upI_nodup (m : Nat) : (upI m).Nodup := (upI_lt m).imp fun h => by omega
theorem er_map {α β : Type} (f : α → β) : ∀ (l : List α) (j : Nat), (l.map f).eraseIdx j = (l.eraseIdx j).map f
  | [], _ => rfl
  | _ :: _, 0 => rfl
  | x :: l, j + 1 => by
    show f x :: (l.map f).eraseIdx j = f x :: (l.eraseIdx j).map f
    rw [er_map f l j]
theorem er_perm {α : Type} : ∀ (l : List α) (j : Nat) (h : j < l.length), (l[j] :: l.eraseIdx j).Perm l
  | x :: l, 0, _ => .refl _
  | x :: l, j + 1, h => by
    have ih := er_perm l j (by simpa using h)
    exact (List.Perm.swap x _ _).trans (ih.cons x)
def tnBody : SF := (cExpr (fM appD (fV 3) (fCons (fM popAt (fV 2) (fCons (fFn 2 m_law_draw (fCons (fV 0) (fCons (fC (arg1 lenD) (fCons (fV 2) fNil)) fNil))) fNil)) fNil)))
def two (is js : List Int) : Sto := [.lst ((is.map PyData.int).map .p), .lst ((js.map PyData.int).map .p)]
section
variable {rs st : Sto}
theorem two_0 (s : Sto) (is js : List Int) : (s ++ two is js)[s.length]? = some (.lst ((is.map PyData.int).map .p)) := by simp [two]
theorem two_1 (s : Sto) (is js : List Int) : (s ++ two is js)[s.length + 1]? = some (.lst ((js.map PyData.int).map .p)) := by
  rw [List.getElem?_append_right (by omega)]
  simp [two]
theorem set_0 (s : Sto) (is js ks : List Int) : (s ++ two is js).set s.length (.lst ((ks.map PyData.int).map .p)) = s ++ two ks js := by
  rw [List.set_append_right _ _ (Nat.le_refl _)]
  simp [two]
theorem set_1 (s : Sto) (is js ks : List Int) : (s ++ two is js).set (s.length + 1) (.lst ((ks.map PyData.int).map .p)) = s ++ two is ks := by
  rw [List.set_append_right _ _ (by omega)]
  simp [two]
theorem tn_step {m : Int} {is js : List Int} {l : Option D} {k : Nat} (h : PS rs st) (hk : st.length = k) (h1 : 1 ≤ is.length) (h2 : is.length + js.length ≤ 1000) :
    ∃ is2 js2 s2, tnBody [some (.r 1), oi m, some (.r k), some (.r (k + 1)), l] (st ++ two is js) = .nx [some (.r 1), oi m, some (.r k), some (.r (k + 1)), l] (s2 ++ two is2 js2) ∧ PS rs s2 ∧ is2.length + 1 = is.length ∧ (is2 ++ js2).Perm (is ++ js) := by
  have hp : PS (rs ++ two is js) (st ++ two is js) := h.re (is.map .int) (js.map .int)
  have q0 := two_0 st is js
  have q1 := two_1 st is js
  rw [hk] at q0 q1
  have hl : lenD (.r k) (st ++ two is js) = .ok (.p (.int (is.length : Nat))) (st ++ two is js) := by
    simp [lenD, itemsD, q0]
  obtain ⟨r, s, ed, hs, r0, r1⟩ := draw_g (many := (is.length : Nat)) hp (by omega) (by omega)
  obtain ⟨s2, rfl, hs2⟩ := PS.cut hs h.2
  have k2 : s2.length = k := by rw [← hk]; exact h.ll hs2
  obtain ⟨j, hj, rfl⟩ : ∃ j : Nat, j < is.length ∧ r = (j : Nat) := ⟨r.toNat, by omega, by omega⟩
  have lz : (lineN : Int) = 1000000 := rfl
  have lz' : lineN = 1000000 := rfl
  have ix : L2.ixN is.length (j : Nat) = some j := by
    unfold L2.ixN
    rw [if_pos (by omega), if_pos (by omega)]
    rfl
  have ep : popAt (.r k) [.p (.int (j : Nat))] (s2 ++ two is js) = .ok (.p (.int is[j])) (s2 ++ two (is.eraseIdx j) js) := by
    have g := two_0 s2 is js
    have st' := set_0 s2 is js (is.eraseIdx j)
    rw [k2] at g st'
    simp only [popAt, lstAt, g, List.length_map, ix]
    have e : ((is.map PyData.int).map D.p)[j]? = some (.p (.int is[j])) := by
      rw [List.getElem?_map, List.getElem?_map, List.getElem?_eq_getElem hj]
      rfl
    simp only [e]
    rw [if_pos (by omega), er_map, er_map, st']
  have ea : appD (.r (k + 1)) [.p (.int is[j])] (s2 ++ two (is.eraseIdx j) js) = .ok (.p .none) (s2 ++ two (is.eraseIdx j) (js ++ [is[j]])) := by
    have g := two_1 s2 (is.eraseIdx j) js
    have st' := set_1 s2 (is.eraseIdx j) js (js ++ [is[j]])
    rw [k2] at g st'
    simp only [appD, lstAt, g, List.length_map]
    rw [if_pos (by omega)]
    rw [List.map_append, List.map_append] at st'
    exact congrArg _ st'
  have t2 : tyL (st ++ two is js) (.r k) = true := by simp [tyL, q0]
  have t3 : tyL (st ++ two is js) (.r (k + 1)) = true := by simp [tyL, q1]
  refine ⟨is.eraseIdx j, js ++ [is[j]], s2, ?_, hs2, ?_, ?_⟩
  · generalize two is js = W at hl ed ep t2 t3 ⊢
    simp [tnBody, hl, ed, ep, ea, t2, t3]
  · rw [List.length_eraseIdx_of_lt hj]; omega
  · have q : (is[j] :: is.eraseIdx j).Perm is := er_perm is j hj
    rw [← List.append_assoc]
    refine List.perm_append_comm.trans ?_
    show (is[j] :: (is.eraseIdx j ++ js)).Perm _
    rw [← List.cons_append]
    exact q.append_right js
theorem turned_g (h : PS rs st) {m : Int} (h1 : 0 ≤ m) (h2 : m ≤ 1000) : ∃ (is : List Int) (st' : Sto), m_law_turned [.r 1, .p (.int m)] st = .ok (.p (.list (is.map .int))) st' ∧ PS rs st' ∧ is.Perm (upI m.toNat) := by
  have lz : (lineN : Int) = 1000000 := rfl
  have rg := rng1_i (j := m) (st ++ two (upI m.toNat) []) (by omega)
  obtain ⟨k, hk⟩ : ∃ k, st.length = k := ⟨_, rfl⟩
  obtain ⟨env', q', el, s2, is2, js2, rfl, hs, hn, hp, l2, he⟩ := loop_rng (j := 4) (f := tnBody) (fun i env q => ∃ s is js, q = s ++ two is js ∧ PS rs s ∧ (is.length : Int) = m - i ∧ (is ++ js).Perm (upI m.toNat) ∧ ∃ l, env = [some (.r 1), oi m, some (.r k), some (.r (k + 1)), l]) m.toNat 0
    (fun i env q lo hi ⟨s, is, js, e, hs, hn, hp, l, e2⟩ => by
      subst e e2
      have tot := hp.length_eq
      rw [List.length_append, upI_len] at tot
      obtain ⟨is2, js2, s2, eb, hs2, hn2, hp2⟩ := tn_step (m := m) (k := k) (l := some (.p (.int i))) hs (by rw [← hk]; exact h.ll hs) (show 1 ≤ is.length by omega) (show is.length + js.length ≤ 1000 by omega)
      exact ⟨_, _, eb, s2, is2, js2, rfl, hs2, by omega, hp2.trans hp, _, rfl⟩) (env := [some (.r 1), oi m, some (.r k), some (.r (k + 1)), none]) (st := st ++ two (upI m.toNat) []) ⟨st, upI m.toNat, [], rfl, h, by rw [upI_len]; omega, by rw [List.append_nil], none, rfl⟩
  subst he
  have e0 : is2 = [] := List.eq_nil_of_length_eq_zero (by omega)
  subst e0
  have k2 : s2.length = k := by rw [← hk]; exact h.ll hs
  refine ⟨js2, s2, fnM_frz (k := k + 1) (ext := two [] js2) (ps := js2.map .int) hs.cs (h.ll hs) ?_ (by omega) (by rw [← k2]; exact two_1 s2 [] js2), hs, hp⟩
  unfold tnBody at el
  have lr : lrK true (.p (.int m)) st = .ok (.r k) (st ++ [.lst ((rngL 0 m.toNat).map .p)]) := by
    unfold lrK
    simp only
    rw [if_pos (by omega), ← hk]
    rfl
  have mr : mkRef [] (st ++ [OB.lst ((rngL 0 m.toNat).map .p)]) = .ok (.r (k + 1)) (st ++ two (upI m.toNat) []) := by
    unfold mkRef
    rw [if_pos (by decide), List.length_append, hk, List.append_assoc, upI_rng]
    rfl
  have hh : startE 5 [D.r 1, .p (.int m)] = [some (.r 1), oi m, none, none, none] := rfl
  rw [hh]
  unfold oi at el ⊢
  generalize two (upI m.toNat) [] = W at rg el mr
  generalize two [] js2 = W2 at el ⊢
  simp [b_law_turned, fLr1, cPar, lr, fRef, mr, rg, el]
end
end MV

set_option Elab.async false
set_option linter.all false
set_option maxRecDepth 100000
set_option maxHeartbeats 4000000
namespace MV
open PySem
def k_MOST_COMMITS : PyData := (.int 2000)
def b_resting : SF :=
  (cRet (fLc2 false [1, 2] (fW (fV 0)) (gN 1) fYes (fW (fV 1)) [2] (gN 2) fYes (fV 2)))
def m_resting : List D → Sto → R D := fnM false 3 b_resting
def b_askable : SF :=
  (cSeq (cAsg (gN 3) (fFn 1 m_resting (fCons (fV 2) fNil)))
  (cRet (fLc false [4] (fR rng1 (fCons (fB ixD (fV 0) (fK (.int 0))) fNil)) (gN 4) (fAnd (fBT (inS true) (fV 4) (fV 1)) (fBT (inS true) (fV 4) (fV 3))) (fV 4))))
def m_askable : List D → Sto → R D := fnM false 5 b_askable
def b_is_rising : SF :=
  (cSeq (cIf (fNot (fT (fU (isiD "tuple") (fV 0)))) (cRet (fK (.bool false))) cNx)
  (cSeq (cAsg (gN 2) (fU negD (fK (.int 1))))
  (cSeq (cFor (fW (fV 0)) (gN 3) (cSeq (cIf (fNot (fT (fFn 3 m_is_between (fCons (fV 3) (fCons (fB addD (fV 2) (fK (.int 1))) (fCons (fB subD (fV 1) (fK (.int 1))) fNil)))))) (cRet (fK (.bool false))) cNx)
  (cAsg (gN 2) (fV 3))))
  (cRet (fK (.bool true))))))
def m_is_rising : List D → Sto → R D := fnM false 4 b_is_rising
def b_is_commit_form : SF :=
  (cRet (fAndV (fFn 3 m_is_tuple_of (fCons (fV 1) (fCons (fB ixD (fV 0) (fK (.int 4))) (fCons (fB ixD (fV 0) (fK (.int 4))) fNil)))) (fFn 2 m_is_rising (fCons (fV 1) (fCons (fB ixD (fV 0) (fK (.int 0))) fNil)))))
def m_is_commit_form : List D → Sto → R D := fnM false 2 b_is_commit_form
def b_first_of : SF :=
  (cSeq (cFor (fW (fV 0)) (gN 2) (cIf (fBT (inS false) (fV 2) (fV 1)) (cRet (fV 2)) cNx))
  (cRet (fK .none)))
def m_first_of : List D → Sto → R D := fnM false 3 b_first_of
def b_check_script : SF :=
  (cSeq (cIf (fNot (fT (fFn 3 m_is_tuple_of (fCons (fV 2) (fCons (fK (.int 0)) (fCons (fV 3) fNil)))))) (cRaise "BadScript" (fCons (fU negD (fK (.int 1))) fNil)) cNx)
  (cSeq (cFor (fR rng1 (fCons (fC (arg1 lenD) (fCons (fV 2) fNil)) fNil)) (gN 4) (cIf (fNot (fT (fFn 2 m_is_commit_form (fCons (fV 0) (fCons (fB ixD (fV 2) (fV 4)) fNil))))) (cRaise "BadScript" (fCons (fV 4) fNil)) cNx))
  (cSeq (cFor (fR rng1 (fCons (fC (arg1 lenD) (fCons (fV 2) fNil)) fNil)) (gN 4) (cIf (fBT (isD true) (fFn 2 m_first_of (fCons (fB ixD (fV 2) (fV 4)) (fCons (fV 1) fNil))) (fK .none)) (cRaise "Sworn" (fCons (fV 4) fNil)) cNx))
  (cFor (fR rng1 (fCons (fC (arg1 lenD) (fCons (fV 2) fNil)) fNil)) (gN 4) (cIf (fBT (isD true) (fFn 2 m_first_of (fCons (fB ixD (fV 2) (fV 4)) (fCons (fFn 1 m_resting (fCons (fSl false (fV 2) (fSo (fC (arg2 max2) (fCons (fK (.int 0)) (fCons (fB subD (fV 4) (fB ixD (fV 0) (fK (.int 5)))) fNil)))) (fSo (fV 4))) fNil)) fNil))) (fK .none)) (cRaise "Gap" (fCons (fV 4) fNil)) cNx)))))
def m_check_script : List D → Sto → R D := fnM false 5 b_check_script
def b_check_last : SF :=
  (cIf (fNot (fT (fLet refL (fFn 4 m_check_script (fCons (fV 0) (fCons (fV 1) (fCons (fV 2) (fCons (fB ixD (fV 0) (fK (.int 5))) fNil)))))))) (cRaise "BadLast" (fCons (fK (.int 0)) fNil)) cNx)
def m_check_last : List D → Sto → R D := fnM false 3 b_check_last
def b_may_ask : SF :=
  (cSeq (cExpr (fFn 2 m_made_sworn (fCons (fV 0) (fCons (fV 1) fNil))))
  (cSeq (cExpr (fFn 3 m_check_last (fCons (fV 0) (fCons (fV 1) (fCons (fV 2) fNil)))))
  (cRet (fC (arg1 tupOf) (fCons (fFn 3 m_askable (fCons (fV 0) (fCons (fV 1) (fCons (fV 2) fNil)))) fNil)))))
def m_may_ask : List D → Sto → R D := fnM false 3 b_may_ask
def b_law_stand_rims : SF :=
  (cSeq (cPar [2, 3] (fCons (fFn 2 m_law_draw (fCons (fV 0) (fCons (fK (.int 4)) fNil))) (fCons (fFn 2 m_law_draw (fCons (fV 0) (fCons (fK (.int 3)) fNil))) fNil)))
  (cSeq (cIf (fBT (eqD false) (fV 2) (fK (.int 0))) (cSeq (cPar [4, 5] (fCons (fB addD (fK (.int 3)) (fFn 2 m_law_draw (fCons (fV 0) (fCons (fK (.int 6)) fNil)))) (fCons (fFn 2 m_law_draw (fCons (fV 0) (fCons (fK (.int 2)) fNil))) fNil)))
  (cRet (fTup (fCons (fB addD (fB mulD (fV 4) (fB addD (fV 5) (fK (.int 1)))) (fV 3)) (fCons (fK (.int 1)) (fCons (fB addD (fV 4) (fFn 2 m_law_draw (fCons (fV 0) (fCons (fK (.int 4)) fNil)))) (fCons (fB addD (fK (.int 1)) (fFn 2 m_law_draw (fCons (fV 0) (fCons (fV 1) fNil)))) (fCons (fV 4) (fCons (fV 5) fNil))))))))) cNx)
  (cSeq (cIf (fBT (eqD false) (fV 2) (fK (.int 1))) (cSeq (cPar [6, 5] (fCons (fB addD (fK (.int 4)) (fFn 2 m_law_draw (fCons (fV 0) (fCons (fK (.int 3)) fNil)))) (fCons (fFn 2 m_law_draw (fCons (fV 0) (fCons (fK (.int 2)) fNil))) fNil)))
  (cRet (fTup (fCons (fB addD (fB addD (fV 5) (fK (.int 1))) (fV 3)) (fCons (fV 6) (fCons (fB addD (fV 6) (fFn 2 m_law_draw (fCons (fV 0) (fCons (fK (.int 4)) fNil)))) (fCons (fB addD (fK (.int 1)) (fFn 2 m_law_draw (fCons (fV 0) (fCons (fV 1) fNil)))) (fCons (fK (.int 1)) (fCons (fV 5) fNil))))))))) cNx)
  (cSeq (cIf (fBT (eqD false) (fV 2) (fK (.int 2))) (cSeq (cAsg (gN 6) (fB addD (fK (.int 4)) (fFn 2 m_law_draw (fCons (fV 0) (fCons (fK (.int 3)) fNil)))))
  (cSeq (cAsg (gN 4) (fB addD (fK (.int 2)) (fFn 2 m_law_draw (fCons (fV 0) (fCons (fB subD (fB divD (fK (.int 25)) (fV 6)) (fK (.int 1))) fNil)))))
  (cRet (fTup (fCons (fB addD (fV 4) (fB divD (fV 3) (fK (.int 2)))) (fCons (fV 6) (fCons (fB addD (fB mulD (fV 6) (fV 4)) (fFn 2 m_law_draw (fCons (fV 0) (fCons (fK (.int 4)) fNil)))) (fCons (fB addD (fK (.int 1)) (fFn 2 m_law_draw (fCons (fV 0) (fCons (fV 1) fNil)))) (fCons (fV 4) (fCons (fK (.int 0)) fNil)))))))))) cNx)
  (cSeq (cPar [5, 6] (fCons (fB addD (fK (.int 3)) (fFn 2 m_law_draw (fCons (fV 0) (fCons (fK (.int 6)) fNil)))) (fCons (fB addD (fK (.int 1)) (fFn 2 m_law_draw (fCons (fV 0) (fCons (fK (.int 2)) fNil)))) fNil)))
  (cRet (fTup (fCons (fB addD (fB addD (fV 5) (fK (.int 1))) (fV 3)) (fCons (fV 6) (fCons (fB addD (fV 6) (fFn 2 m_law_draw (fCons (fV 0) (fCons (fK (.int 4)) fNil)))) (fCons (fB addD (fK (.int 1)) (fFn 2 m_law_draw (fCons (fV 0) (fCons (fV 1) fNil)))) (fCons (fK (.int 1)) (fCons (fV 5) fNil)))))))))))))
def m_law_stand_rims : List D → Sto → R D := fnM false 7 b_law_stand_rims
def b_law_stand_great : SF :=
  (cSeq (cAsg (gN 1) (fLst (fCons (fTup (fCons (fK (.int 40)) (fCons (fK (.int 1)) (fCons (fK (.int 20)) (fCons (fK (.int 4)) (fCons (fK (.int 8)) fNil)))))) (fCons (fTup (fCons (fK (.int 40)) (fCons (fK (.int 1)) (fCons (fK (.int 20)) (fCons (fK (.int 8)) (fCons (fK (.int 4)) fNil)))))) (fCons (fTup (fCons (fK (.int 9)) (fCons (fK (.int 6)) (fCons (fK (.int 6)) (fCons (fK (.int 1)) (fCons (fK (.int 8)) fNil)))))) (fCons (fTup (fCons (fK (.int 5)) (fCons (fK (.int 6)) (fCons (fK (.int 30)) (fCons (fK (.int 5)) (fCons (fK (.int 0)) fNil)))))) (fCons (fTup (fCons (fK (.int 8)) (fCons (fK (.int 1)) (fCons (fK (.int 52)) (fCons (fK (.int 8)) (fCons (fK (.int 0)) fNil)))))) fNil)))))))
  (cSeq (cAsg (gT [2, 3, 4, 5, 6]) (fFn 2 m_law_pick (fCons (fV 0) (fCons (fB addD (fV 1) (fLst (fCons (fTup (fCons (fK (.int 20)) (fCons (fK (.int 2)) (fCons (fK (.int 20)) (fCons (fK (.int 4)) (fCons (fK (.int 4)) fNil)))))) (fCons (fTup (fCons (fK (.int 1)) (fCons (fK (.int 1)) (fCons (fK (.int 59)) (fCons (fK (.int 1)) (fCons (fK (.int 0)) fNil)))))) fNil)))) fNil))))
  (cRet (fTup (fCons (fV 2) (fCons (fV 3) (fCons (fV 4) (fCons (fFn 2 m_law_pick (fCons (fV 0) (fCons (fLst (fCons (fK (.int 1)) (fCons (fK (.int 2)) (fCons (fK (.int 10000)) (fCons (fB addD (fK (.int 1)) (fFn 2 m_law_draw (fCons (fV 0) (fCons (fK (.int 10000)) fNil)))) fNil))))) fNil))) (fCons (fV 5) (fCons (fV 6) fNil))))))))))
def m_law_stand_great : List D → Sto → R D := fnM false 7 b_law_stand_great
def b_law_stand_sworn : SF :=
  (cSeq (cAsg (gT [2, 3, 4, 5, 6, 7]) (fV 1))
  (cSeq (cAsg (gN 8) (fIf (fBT (eqD false) (fFn 2 m_law_draw (fCons (fV 0) (fCons (fK (.int 3)) fNil))) (fK (.int 0))) (fFn 2 m_law_draw (fCons (fV 0) (fCons (fB addD (fB subD (fV 2) (fB mulD (fV 6) (fB addD (fV 7) (fK (.int 1))))) (fK (.int 1))) fNil))) (fK (.int 0))))
  (cRet (fC (arg1 tupOf) (fCons (fC (arg1 sortS) (fCons (fSl false (fFn 2 m_law_turned (fCons (fV 0) (fCons (fV 2) fNil))) fNo (fSo (fV 8))) fNil)) fNil)))))
def m_law_stand_sworn : List D → Sto → R D := fnM false 9 b_law_stand_sworn
def b_law_stand_may : SF :=
  (cSeq (cAsg (gN 3) (fRef fNil))
  (cSeq (cFor (fR rng1 (fCons (fB ixD (fV 0) (fK (.int 0))) fNil)) (gN 4) (cIf (fAnd (fBT (inS true) (fV 4) (fV 1)) (fBT (eqD false) (fLc false [5] (fW (fV 2)) (gN 5) (fBT (inS false) (fV 4) (fV 5)) (fV 5)) (fLst fNil))) (cExpr (fM appD (fV 3) (fCons (fV 4) fNil))) cNx))
  (cRet (fV 3))))
def m_law_stand_may : List D → Sto → R D := fnM false 6 b_law_stand_may
def b_law_stand_asked : SF :=
  (cSeq (cAsg (gN 4) (fFn 3 m_law_stand_may (fCons (fV 1) (fCons (fV 2) (fCons (fV 3) fNil)))))
  (cRet (fC (arg1 tupOf) (fCons (fC (arg1 sortS) (fCons (fLc false [5] (fW (fSl false (fFn 2 m_law_turned (fCons (fV 0) (fCons (fC (arg1 lenD) (fCons (fV 4) fNil)) fNil))) fNo (fSo (fB ixD (fV 1) (fK (.int 4)))))) (gN 5) fYes (fB ixD (fV 4) (fV 5))) fNil)) fNil))))
def m_law_stand_asked : List D → Sto → R D := fnM false 6 b_law_stand_asked
def b_law_stand_behind : SF :=
  (cSeq (cAsg (gN 3) (fB addD (fV 1) (fTup (fCons (fV 2) fNil))))
  (cRet (fSl false (fV 3) (fSo (fC (arg2 max2) (fCons (fK (.int 0)) (fCons (fB subD (fC (arg1 lenD) (fCons (fV 3) fNil)) (fB ixD (fV 0) (fK (.int 5)))) fNil)))) fNo)))
def m_law_stand_behind : List D → Sto → R D := fnM false 4 b_law_stand_behind
def b_law_stand_script : SF :=
  (cSeq (cAsg (gT [4, 5]) (fTup (fCons (fTup fNil) (fCons (fTup fNil) fNil))))
  (cSeq (cFor (fR rng1 (fCons (fV 3) fNil)) (gN 6) (cSeq (cAsg (gN 7) (fFn 4 m_law_stand_asked (fCons (fV 0) (fCons (fV 1) (fCons (fV 2) (fCons (fV 5) fNil))))))
  (cPar [4, 5] (fCons (fB addD (fV 4) (fTup (fCons (fV 7) fNil))) (fCons (fFn 3 m_law_stand_behind (fCons (fV 1) (fCons (fV 5) (fCons (fV 7) fNil)))) fNil)))))
  (cRet (fV 4))))
def m_law_stand_script : List D → Sto → R D := fnM false 8 b_law_stand_script
def b_made_script : SF :=
  (cSeq (cExpr (fFn 2 m_made_sworn (fCons (fV 0) (fCons (fV 1) fNil))))
  (cSeq (cExpr (fFn 4 m_check_script (fCons (fV 0) (fCons (fV 1) (fCons (fV 2) (fCons (fK k_MOST_COMMITS) fNil))))))
  (cRet (fV 2))))
def m_made_script : List D → Sto → R D := fnM false 3 b_made_script
def b_is_script : SF :=
  (cRet (fLet refL (fFn 3 m_made_script (fCons (fV 0) (fCons (fV 1) (fCons (fV 2) fNil))))))
def m_is_script : List D → Sto → R D := fnM false 3 b_is_script
end MV

set_option Elab.async false
set_option linter.all false
set_option maxRecDepth 100000
set_option maxHeartbeats 2000000
namespace MV
open PySem
local instance : Tbs := ⟨[]⟩
/-! ## commits: their form, what rests -/
/-- whether a thing is a rising tuple of numbers below n -/
def riseX (n : Int) : PyData → Bool
  | .tuple ds => (scanS (n - 1) 0 0 ds).isNone
  | _ => false
theorem scan_none (hi : Int) : ∀ (ds : List PyData) (lo : Int) (i j : Nat), (scanS hi lo i ds).isNone = (scanS hi lo j ds).isNone
  | [], _, _, _ => rfl
  | x :: r, lo, i, j => by
    simp only [scanS]
    split
    · exact scan_none hi r _ _ _
    · rfl
section
variable {n a s w t d : Int} {st : Sto}
def rsBody : SF := (cSeq (cIf (fNot (fT (fFn 3 m_is_between (fCons (fV 3) (fCons (fB addD (fV 2) (fK (.int 1))) (fCons (fB subD (fV 1) (fK (.int 1))) fNil)))))) (cRet (fK (.bool false))) cNx)
  (cAsg (gN 2) (fV 3)))
theorem rs_loop (hc : CS st) {x0 : D} : ∀ (ds : List PyData) (last : Int) (l : Option D), allPl ds = true →
    ((scanS (n - 1) (last + 1) 0 ds).isNone = true → ∃ last' l', loopS (gN 3) rsBody (ds.map .p) [some x0, oi n, oi last, l] st = .nx [some x0, oi n, oi last', l'] st) ∧
    ((scanS (n - 1) (last + 1) 0 ds).isNone = false → loopS (gN 3) rsBody (ds.map .p) [some x0, oi n, oi last, l] st = .ret (.p (.bool false)) st)
  | [], last, l, _ => ⟨fun _ => ⟨last, l, rfl⟩, fun h => by cases h⟩
  | x :: r, last, l, hp => by
    simp only [allPl, Bool.and_eq_true] at hp
    have eb := m_between_x (st := st) hc hp.1 (last + 1) (n - 1)
    rw [List.map_cons]
    unfold loopS
    simp only [gN_eq, scanS]
    cases hb : betw x (last + 1) (n - 1) with
    | false =>
      rw [hb] at eb
      rw [if_neg Bool.false_ne_true]
      refine ⟨fun z => (by cases z), fun _ => ?_⟩
      have : rsBody ([some x0, oi n, oi last, l].set 3 (some (.p x))) st = .ret (.p (.bool false)) st := by simp [rsBody, oi, eb]
      rw [this]
    | true =>
      rw [hb] at eb
      rw [if_pos rfl]
      obtain ⟨v, rfl, _, _⟩ := betw_int hb
      have e : rsBody ([some x0, oi n, oi last, l].set 3 (some (.p (.int v)))) st = .nx [some x0, oi n, oi v, oi v] st := by simp [rsBody, oi, eb]
      rw [e]
      have ih := rs_loop (x0 := x0) hc r v (oi v) hp.2
      have sn := scan_none (n - 1) r (v + 1) (0 + 1) 0
      simp only [valI, sn]
      exact ih
theorem m_rising (hc : CS st) {x : PyData} (h : topPl x = true) : m_is_rising [.p x, .p (.int n)] st = .ok (.p (.bool (riseX n x))) st := by
  simp only [topPl, Bool.and_eq_true] at h
  cases x with
  | tuple ds =>
    have lp := rs_loop (n := n) (st := st) hc (x0 := .p (.tuple ds)) ds (-1) none h.2
    rw [show (-1 : Int) + 1 = 0 by rfl] at lp
    unfold rsBody oi at lp
    have wk : walkD (.p (.tuple ds)) st = .ok (ds.map .p) st := rfl
    cases hs : (scanS (n - 1) 0 0 ds).isNone with
    | true =>
      obtain ⟨v, l', e⟩ := lp.1 hs
      exact fnM_ret hc rfl (by simp [b_is_rising, startE, kb_tt, wk, e, riseX, hs])
    | false =>
      have e := lp.2 hs
      exact fnM_ret hc rfl (by simp [b_is_rising, startE, kb_tt, wk, e, riseX, hs])
  | dict _ => cases h.1
  | _ => exact fnM_ret hc rfl (by simp [b_is_rising, startE, kb_st, kb_lt, kb_nt, kb_bt, kb_it, riseX])
/-- whether a thing is a commit by form -/
def formX (n t : Int) (x : PyData) : Bool := (match tupLen x with | some k => decide ((k : Int) = t) | none => false) && riseX n x
theorem m_form (hc : CS st) {x : PyData} (h : topPl x = true) : m_is_commit_form [.p (szD n a s w t d), .p x] st = .ok (.p (.bool (formX n t x))) st := by
  have e1 := m_rising (n := n) hc h
  have hp : plainP x = true := by
    simp only [topPl, Bool.and_eq_true] at h
    exact h.1
  have e2 := m_tuple_x (st := st) hc hp t t
  cases hk : tupLen x with
  | none =>
    simp only [hk] at e2
    exact fnM_ret hc rfl (by simp [b_is_commit_form, startE, sz_at0, sz_at4, e2, formX, hk])
  | some k =>
    simp only [hk] at e2
    by_cases c : (k : Int) = t
    · subst c
      have e2 : m_is_tuple_of [.p x, .p (.int (k : Int)), .p (.int (k : Int))] st = .ok (.p (.bool true)) st := by simpa using e2
      exact fnM_ret hc rfl (by simp [b_is_commit_form, startE, sz_at0, sz_at4, e2, e1, formX, hk])
    · have c2 : (decide (t ≤ (k : Int)) && decide ((k : Int) ≤ t)) = false := by
        rw [← Bool.decide_and]
        exact decide_eq_false (by omega)
      rw [c2] at e2
      exact fnM_ret hc rfl (by simp [b_is_commit_form, startE, sz_at0, sz_at4, e2, formX, hk, c])
/-! ### comprehensions of two clauses -/
theorem inner_all {t : TF} {fe : EF} {env : Ev} (hc : CS st) : ∀ (ys acc : List PyData), (∀ y ∈ ys, ∃ e1, t (.p y) env = some e1 ∧ ∀ s, CS s → fe e1 s = .ok (.p y) s) → (acc ++ ys).length ≤ lineN →
    compL t fYes fe st.length (ys.map .p) env (st ++ [.lst (acc.map .p)]) = .ok () (st ++ [.lst ((acc ++ ys).map .p)])
  | [], acc, _, _ => by
    rw [List.append_nil]
    rfl
  | y :: ys, acc, h, hl => by
    obtain ⟨e1, h1, h2⟩ := h y (.head _)
    have g : (st ++ [OB.lst (acc.map .p)])[st.length]? = some (.lst (acc.map .p)) := by simp
    have q : (st ++ [OB.lst (acc.map .p)]).set st.length (.lst (acc.map .p ++ [.p y])) = st ++ [.lst ((acc ++ [y]).map .p)] := by simp
    have hz : (acc.map D.p).length + 1 ≤ lineN := by
      rw [List.length_map]
      rw [List.length_append, List.length_cons] at hl
      omega
    have ih := inner_all hc ys (acc ++ [y]) (fun z hz => h z (.tail _ hz)) (by rw [List.append_assoc]; exact hl)
    rw [List.map_cons]
    unfold compL
    simp only [h1, fYes, nox_ok, bind_ok, if_pos, h2 _ (hc.app acc), g, hz, q, ih]
    rw [List.append_assoc]
    rfl
theorem comp2_flat {t t1 : TF} {fi fi1 : FI} {fe : EF} {vs vs1 : List Nat} {env : Ev} {L : List PyData} (f : PyData → List PyData) (hc : CS st) (hi : fi env st = .ok (L.map .p) st) (hl : (L.flatMap f).length ≤ lineN)
    (h : ∀ x ∈ L, ∃ e1, t (.p x) (wipeE env vs) = some e1 ∧ (∀ s, CS s → fi1 e1 s = .ok ((f x).map .p) s) ∧ ∀ y ∈ f x, ∃ e2, t1 (.p y) (wipeE e1 vs1) = some e2 ∧ ∀ s, CS s → fe e2 s = .ok (.p y) s) :
    fLc2 false vs fi t fYes fi1 vs1 t1 fYes fe env st = .ok (.p (.list (L.flatMap f))) st := by
  have go : ∀ (L : List PyData) (acc : List PyData), (∀ x ∈ L, ∃ e1, t (.p x) (wipeE env vs) = some e1 ∧ (∀ s, CS s → fi1 e1 s = .ok ((f x).map .p) s) ∧ ∀ y ∈ f x, ∃ e2, t1 (.p y) (wipeE e1 vs1) = some e2 ∧ ∀ s, CS s → fe e2 s = .ok (.p y) s) →
      (acc ++ L.flatMap f).length ≤ lineN → comp2L t fYes fi1 vs1 t1 fYes fe st.length (L.map .p) (wipeE env vs) (st ++ [.lst (acc.map .p)]) = .ok () (st ++ [.lst ((acc ++ L.flatMap f).map .p)]) := by
    intro L
    induction L with
    | nil =>
      intro acc _ _
      rw [List.flatMap_nil, List.append_nil]
      rfl
    | cons x L ih =>
      intro acc h hl
      obtain ⟨e1, h1, h2, h3⟩ := h x (.head _)
      rw [List.flatMap_cons, ← List.append_assoc] at hl ⊢
      have i1 := inner_all (t := t1) (fe := fe) (env := wipeE e1 vs1) hc (f x) acc h3 (by rw [List.length_append] at hl; omega)
      have i2 := ih (acc ++ f x) (fun z hz => h z (.tail _ hz)) hl
      rw [List.map_cons]
      unfold comp2L
      simp only [h1, fYes, nox_ok, bind_ok, if_pos, h2 _ (hc.app acc), i1, i2]
  have e := go L [] h (by simpa using hl)
  unfold fLc2
  rw [hi, bind_ok]
  simp only [List.nil_append, List.map_nil] at e
  rw [e, bind_ok]
  show cutR st.length (.ok (.r st.length) (st ++ [.lst ((L.flatMap f).map .p)])) = _
  have g : (st ++ [OB.lst ((L.flatMap f).map .p)])[st.length]? = some (.lst ((L.flatMap f).map .p)) := by simp
  have tk : (st ++ [OB.lst ((L.flatMap f).map .p)]).take st.length = st := by simp
  simp only [cutR, tk, g, allP_map]
  rw [if_pos ⟨by rw [List.length_append]; omega, hc⟩, if_neg (Nat.lt_irrefl _)]
/-! ### numbers as data -/
def tupI (c : List Int) : PyData := .tuple (c.map .int)
def itemsP : PyData → List PyData
  | .tuple ds => ds
  | _ => []
theorem flat_tups (css : List (List Int)) : (css.map tupI).flatMap itemsP = css.flatten.map .int := by
  induction css with
  | nil => rfl
  | cons c r ih => simp [tupI, itemsP, ih]
theorem m_rest_eq (hc : CS st) {css : List (List Int)} (hl : css.flatten.length ≤ 1000000) : m_resting [.p (.tuple (css.map tupI))] st = .ok (.p (.list (css.flatten.map .int))) st := by
  have e := comp2_flat (t := gN 1) (t1 := gN 2) (fi := fW (fV 0)) (fi1 := fW (fV 1)) (fe := fV 2) (vs := [1, 2]) (vs1 := [2]) (env := [some (.p (.tuple (css.map tupI))), none, none]) (L := css.map tupI) itemsP hc
    rfl (by rw [flat_tups, List.length_map]; exact hl) (fun x hx => by
      obtain ⟨c, _, rfl⟩ := List.mem_map.mp hx
      exact ⟨[some (.p (.tuple (css.map tupI))), some (.p (tupI c)), none], rfl, fun s _ => rfl, fun y _ => ⟨_, rfl, fun s _ => rfl⟩⟩)
  rw [flat_tups] at e
  exact fnM_ret hc rfl (by simp only [b_resting, startE]; simp [e])
theorem any_ints (v : Int) (ys : List Int) : (ys.map PyData.int).any (fun z => PyData.eqv z (.int v)) = ys.contains v := by
  induction ys with
  | nil => rfl
  | cons y r ih =>
    rw [List.map_cons, List.any_cons, ih, List.contains_cons]
    congr 1
    show PyData.eqv (.int y) (.int v) = (v == y)
    rw [show PyData.eqv (.int y) (.int v) = decide (y = v) by simp [PyData.eqv]; rfl]
    by_cases c : y = v
    · subst c; simp
    · have c' : ¬ v = y := fun e => c e.symm
      simp [c, c']
theorem has_ints (neg : Bool) (v : Int) (ys : List Int) (st : Sto) : hasQ neg (.int v) (ys.map .int) st = .ok (.p (.bool (if neg then !ys.contains v else ys.contains v))) st := by
  unfold hasQ
  rw [if_pos ⟨shaped_i v, shaped_ints ys⟩, any_ints]
theorem inS_T (neg : Bool) (v : Int) (ys : List Int) (st : Sto) : inS neg (.p (.int v)) (.p (.tuple (ys.map .int))) st = .ok (.p (.bool (if neg then !ys.contains v else ys.contains v))) st := has_ints neg v ys st
theorem inS_L (neg : Bool) (v : Int) (ys : List Int) (st : Sto) : inS neg (.p (.int v)) (.p (.list (ys.map .int))) st = .ok (.p (.bool (if neg then !ys.contains v else ys.contains v))) st := has_ints neg v ys st
/-! ### the first that is among others -/
theorem m_first (hc : CS st) {xs ys : List Int} {Y : D} (hY : ∀ v, inS false (.p (.int v)) Y st = .ok (.p (.bool (ys.contains v))) st) :
    m_first_of [.p (.tuple (xs.map .int)), Y] st = .ok (.p (match xs.find? ys.contains with | some v => .int v | none => .none)) st := by
  have go : ∀ (zs : List Int) (l : Option D), ∃ l', loopS (gN 2) (cIf (fBT (inS false) (fV 2) (fV 1)) (cRet (fV 2)) cNx) ((zs.map PyData.int).map .p) [some (.p (.tuple (xs.map .int))), some Y, l] st =
      match zs.find? ys.contains with | some v => .ret (.p (.int v)) st | none => .nx [some (.p (.tuple (xs.map .int))), some Y, l'] st := by
    intro zs
    induction zs with
    | nil => exact fun l => ⟨l, rfl⟩
    | cons z r ih =>
      intro l
      obtain ⟨l', e⟩ := ih (some (.p (.int z)))
      refine ⟨l', ?_⟩
      have hz := hY z
      rw [List.map_cons, List.map_cons]
      unfold loopS
      rw [List.find?_cons]
      cases hq : ys.contains z with
      | true =>
        rw [hq] at hz
        simp [hz]
      | false =>
        rw [hq] at hz
        simp only [← e]
        simp [hz]
  obtain ⟨l', e⟩ := go xs none
  have wk : walkD (.p (.tuple (xs.map .int))) st = .ok ((xs.map PyData.int).map .p) st := rfl
  generalize xs.map PyData.int = X at e wk ⊢
  cases hf : xs.find? ys.contains with
  | some v =>
    rw [hf] at e
    exact fnM_ret hc rfl (by simp [b_first_of, startE, wk, e])
  | none =>
    rw [hf] at e
    exact fnM_ret hc rfl (by simp [b_first_of, startE, wk, e])
end
end MV

set_option Elab.async false
set_option linter.all false
set_option maxRecDepth 100000
set_option maxHeartbeats 2000000
namespace MV
open PySem
local instance : Tbs := ⟨[]⟩
/-! ## scripts, judged -/
theorem loop_first {f : SF} {C : Str} {a b c d : Option D} {st : Sto} (bad : Nat → Bool) : ∀ (m lo : Nat) (x : Option D),
    (∀ i, lo ≤ i → i < lo + m → f [a, b, c, d, some (.p (.int (i : Nat)))] st = if bad i then .exc C (.p (.int (i : Nat))) [a, b, c, d, some (.p (.int (i : Nat)))] st else .nx [a, b, c, d, some (.p (.int (i : Nat)))] st) →
    (∀ i : Nat, (List.range' lo m).find? bad = some i → ∃ env', loopS (gN 4) f ((rngL (lo : Nat) m).map .p) [a, b, c, d, x] st = .exc C (.p (.int (i : Nat))) env' st) ∧
    ((List.range' lo m).find? bad = none → ∃ x', loopS (gN 4) f ((rngL (lo : Nat) m).map .p) [a, b, c, d, x] st = .nx [a, b, c, d, x'] st)
  | 0, lo, x, _ => ⟨fun i h => (by cases h), fun _ => ⟨x, rfl⟩⟩
  | m + 1, lo, x, h => by
    have h0 := h lo (Nat.le_refl _) (by omega)
    rw [rngL_succ, List.map_cons, List.range'_succ, List.find?_cons]
    unfold loopS
    have g : gN 4 (.p (.int (lo : Nat))) [a, b, c, d, x] = some [a, b, c, d, some (.p (.int (lo : Nat)))] := rfl
    simp only [g, h0]
    cases hb : bad lo with
    | true =>
      simp only [if_true]
      exact ⟨fun i e => ⟨_, (by cases e; rfl)⟩, fun e => (by cases e)⟩
    | false =>
      simp only [Bool.false_eq_true, if_false]
      have ih := loop_first bad m (lo + 1) (some (.p (.int (lo : Nat)))) (fun i h1 h2 => h i (by omega) (by omega))
      rw [show ((lo + 1 : Nat) : Int) = (lo : Int) + 1 by omega] at ih
      exact ih
def intsP (x : PyData) : List Int := (itemsP x).map valI
/-- the records of the commits just ahead of the i-th -/
def backI (d : Int) (xs : List PyData) (i : Nat) : List Int := (((xs.take i).drop (i - d.toNat)).flatMap intsP)
def meets (c others : List Int) : Bool := (c.find? others.contains).isSome
def chkX (n t d : Int) (sw : List Int) (most : Int) : PyData → Option (Str × Int)
  | .tuple xs => if most < (xs.length : Int) then some ("BadScript", -1) else
      match (List.range' 0 xs.length).find? (fun i => !formX n t (xs.getD i .none)) with
      | some i => some ("BadScript", (i : Int))
      | none => match (List.range' 0 xs.length).find? (fun i => meets (intsP (xs.getD i .none)) sw) with
        | some i => some ("Sworn", (i : Int))
        | none => match (List.range' 0 xs.length).find? (fun i => meets (intsP (xs.getD i .none)) (backI d xs i)) with
          | some i => some ("Gap", (i : Int))
          | none => none
  | _ => some ("BadScript", -1)
theorem form_ints {n t : Int} {x : PyData} (h : formX n t x = true) : ∃ c : List Int, x = tupI c ∧ intsP x = c ∧ (c.length : Int) = t ∧ ∀ v ∈ c, 0 ≤ v ∧ v ≤ n - 1 := by
  unfold formX at h
  rw [Bool.and_eq_true] at h
  obtain ⟨h1, h2⟩ := h
  cases x with
  | tuple ds =>
    simp only [riseX, Option.isNone_iff_eq_none] at h2
    obtain ⟨is, rfl, hv⟩ := scan_ints ds 0 0 (by omega) h2
    refine ⟨is, rfl, ?_, by simpa [tupLen] using h1, hv⟩
    simp only [intsP, itemsP, List.map_map]
    exact (List.map_congr_left (fun v _ => rfl)).trans (List.map_id _)
  | _ => cases h2
def lenIn (lo hi : Int) (x : PyData) : Bool := match tupLen x with
  | some k => decide (lo ≤ (k : Int)) && decide ((k : Int) ≤ hi)
  | none => false
theorem forms_ints {n t : Int} : ∀ {xs : List PyData}, (∀ y ∈ xs, formX n t y = true) → ∃ css : List (List Int), xs = css.map tupI ∧ ∀ c ∈ css, (c.length : Int) = t ∧ ∀ v ∈ c, 0 ≤ v ∧ v ≤ n - 1
  | [], _ => ⟨[], rfl, fun c h => by cases h⟩
  | y :: r, h => by
    obtain ⟨c, rfl, _, h1, h2⟩ := form_ints (h y (.head _))
    obtain ⟨css, rfl, h3⟩ := forms_ints (xs := r) fun z hz => h z (.tail _ hz)
    refine ⟨c :: css, rfl, fun e he => ?_⟩
    rcases List.mem_cons.mp he with rfl | he
    · exact ⟨h1, h2⟩
    · exact h3 e he
theorem ints_tup (c : List Int) : intsP (tupI c) = c := by
  simp only [intsP, itemsP, tupI, List.map_map]
  exact (List.map_congr_left (fun v _ => rfl)).trans (List.map_id _)
theorem back_css (d : Int) (css : List (List Int)) (i : Nat) : backI d (css.map tupI) i = ((css.take i).drop (i - d.toNat)).flatten := by
  unfold backI
  rw [← List.map_take, ← List.map_drop]
  generalize (css.take i).drop (i - d.toNat) = l
  induction l with
  | nil => rfl
  | cons c r ih => rw [List.map_cons, List.flatMap_cons, ih, ints_tup, List.flatten_cons]
theorem cut_back {α : Type} (l : List α) {d : Int} {i : Nat} (hd : 0 ≤ d) (hi : i ≤ l.length) : cutG l (some (max 0 ((i : Int) - d))) (some (i : Int)) = (l.take i).drop (i - d.toNat) := by
  unfold cutG HT.sIx
  have e1 : ¬ (max 0 ((i : Int) - d)) < 0 := by omega
  have e2 : ¬ ((i : Nat) : Int) < 0 := by omega
  simp only [e1, e2, if_false]
  rw [List.drop_take, show min (max 0 ((i : Int) - d)).toNat l.length = i - d.toNat by omega, show min ((i : Nat) : Int).toNat l.length = i by omega]
theorem flat_len {t : Int} : ∀ {css : List (List Int)}, (∀ c ∈ css, (c.length : Int) = t) → (css.flatten.length : Int) = css.length * t
  | [], _ => by simp
  | c :: r, h => by
    have h1 := h c (.head _)
    have h2 := flat_len (css := r) fun e he => h e (.tail _ he)
    rw [List.flatten_cons, List.length_append, List.length_cons, Int.natCast_add, h1, h2, Int.natCast_add, Int.add_mul]
    omega
section
variable {n a s w t d : Int} {st : Sto}
theorem m_len (hc : CS st) {x : PyData} (h : plainP x = true) (lo hi : Int) : m_is_tuple_of [.p x, .p (.int lo), .p (.int hi)] st = .ok (.p (.bool (lenIn lo hi x))) st := m_tuple_x hc h lo hi
theorem ix_get (xs : List PyData) (i : Nat) (h : i < xs.length) (st : Sto) : ixD (.p (.tuple xs)) (.p (.int (i : Nat))) st = .ok (.p (xs.getD i .none)) st := by
  have e : L2.atI (xs.map D.p) (i : Int) = some (.p xs[i]) := L2.atI_nat (by rw [List.getElem?_map, List.getElem?_eq_getElem h]; rfl)
  rw [List.getD_eq_getElem?_getD, List.getElem?_eq_getElem h]
  simp [ixD, itemsD, e]
theorem find_none_all {m : Nat} {p : Nat → Bool} (h : (List.range' 0 m).find? p = none) (i : Nat) (hi : i < m) : p i = false := by
  have := List.find?_eq_none.mp h i (by rw [List.mem_range'_1]; omega)
  simpa using this
theorem m_check_sc (hc : CS st) (z : Sz n a s w t d) {sw : List Int} {x : PyData} {most : Int} (hp : plainP x = true) (h : ∀ xs, x = .tuple xs → (∀ y ∈ xs, topPl y = true) ∧ xs.length ≤ 10000) :
    m_check_script [.p (szD n a s w t d), .p (.tuple (sw.map .int)), .p x, .p (.int most)] st = orX .none (chkX n t d sw most x) st := by
  have e0 := m_len (st := st) hc hp 0 most
  generalize hsw : sw.map PyData.int = SW
  have bad : ∀ c : Int, lenIn 0 most x = false → m_check_script [.p (szD n a s w t d), .p (.tuple SW), .p x, .p (.int most)] st = .exc "BadScript" (.p (.int (-1))) st := fun _ hq => by
    rw [hq] at e0
    exact fnM_exc hc rfl (env := [some (.p (szD n a s w t d)), some (.p (.tuple SW)), some (.p x), some (.p (.int most)), none]) (by simp [b_check_script, startE, e0])
  cases x with
  | tuple xs =>
    obtain ⟨ht, hl⟩ := h xs rfl
    simp only [chkX]
    by_cases cm : most < (xs.length : Int)
    · rw [if_pos cm]
      exact bad 0 (by simp only [lenIn, tupLen]; rw [← Bool.decide_and]; exact decide_eq_false (by omega))
    rw [if_neg cm]
    have e0 : m_is_tuple_of [.p (.tuple xs), .p (.int 0), .p (.int most)] st = .ok (.p (.bool true)) st := by
      rw [e0]
      simp only [lenIn, tupLen]
      rw [← Bool.decide_and, decide_eq_true (by omega)]
    have rg := rng1_i (j := (xs.length : Int)) st (by omega)
    rw [Int.toNat_natCast] at rg
    have l1 := loop_first (f := (cIf (fNot (fT (fFn 2 m_is_commit_form (fCons (fV 0) (fCons (fB ixD (fV 2) (fV 4)) fNil))))) (cRaise "BadScript" (fCons (fV 4) fNil)) cNx)) (C := "BadScript") (a := some (.p (szD n a s w t d))) (b := some (.p (.tuple SW))) (c := some (.p (.tuple xs))) (d := some (.p (.int most))) (st := st) (fun i => !formX n t (xs.getD i .none)) xs.length 0 none (fun i h1 h2 => by
      have hi : i < xs.length := by omega
      have ix := ix_get xs i hi st
      have ef := m_form (n := n) (a := a) (s := s) (w := w) (t := t) (d := d) (st := st) hc (x := xs.getD i .none) (ht _ (by rw [List.getD_eq_getElem?_getD, List.getElem?_eq_getElem hi]; exact List.getElem_mem hi))
      show _ = if (!formX n t (xs.getD i .none)) then _ else _
      generalize xs.getD i .none = y at ix ef ⊢
      cases hf : formX n t y with
      | true => rw [hf] at ef; simp [ix, ef]
      | false => rw [hf] at ef; simp [ix, ef])
    rw [show ((0 : Nat) : Int) = 0 by rfl] at l1
    cases f1 : (List.range' 0 xs.length).find? (fun i => !formX n t (xs.getD i .none)) with
    | some i =>
      obtain ⟨env', e1⟩ := l1.1 i f1
      exact fnM_exc hc rfl (env := env') (by simp [b_check_script, startE, e0, rg, e1])
    | none =>
      obtain ⟨x1, e1⟩ := l1.2 f1
      obtain ⟨css, rfl, hf⟩ := forms_ints (n := n) (t := t) (xs := xs) (fun y hy => by
        obtain ⟨i, hi, rfl⟩ := List.getElem_of_mem hy
        have := find_none_all f1 i hi
        rw [List.getD_eq_getElem?_getD, List.getElem?_eq_getElem hi] at this
        simpa using this)
      have hl2 : css.length ≤ 10000 := by simpa using hl
      have get : ∀ i, i < css.length → ∃ c ∈ css, (css.map tupI).getD i .none = tupI c := fun i hi => ⟨css[i], List.getElem_mem hi, by
        rw [List.getD_eq_getElem?_getD, List.getElem?_map, List.getElem?_eq_getElem hi]
        rfl⟩
      have cond : ∀ (c others : List Int) (Y : D), (∀ v, inS false (.p (.int v)) Y st = .ok (.p (.bool (others.contains v))) st) → ∃ r : PyData, m_first_of [.p (tupI c), Y] st = .ok (.p r) st ∧ isD true (.p r) (.p .none) st = .ok (.p (.bool (meets c others))) st := fun c others Y hY => by
        refine ⟨_, m_first hc hY, ?_⟩
        unfold meets
        cases c.find? others.contains with
        | some v => rfl
        | none => rfl
      have l2 := loop_first (f := (cIf (fBT (isD true) (fFn 2 m_first_of (fCons (fB ixD (fV 2) (fV 4)) (fCons (fV 1) fNil))) (fK .none)) (cRaise "Sworn" (fCons (fV 4) fNil)) cNx)) (C := "Sworn") (a := some (.p (szD n a s w t d))) (b := some (.p (.tuple SW))) (c := some (.p (.tuple (css.map tupI)))) (d := some (.p (.int most))) (st := st) (fun i => meets (intsP ((css.map tupI).getD i .none)) sw) (css.map tupI).length 0 x1 (fun i h1 h2 => by
        have hi : i < css.length := by rw [List.length_map] at h2; omega
        have ix := ix_get (css.map tupI) i (by rw [List.length_map]; exact hi) st
        obtain ⟨c, _, ec⟩ := get i hi
        show _ = if meets (intsP ((css.map tupI).getD i .none)) sw then _ else _
        rw [ec] at ix ⊢
        rw [ints_tup]
        obtain ⟨r, e2, e3⟩ := cond c sw (.p (.tuple SW)) (fun v => by rw [← hsw]; exact inS_T false v sw st)
        generalize css.map tupI = L at ix ⊢
        cases hm : meets c sw with
        | true => rw [hm] at e3; simp [ix, e2, e3]
        | false => rw [hm] at e3; simp [ix, e2, e3])
      rw [show ((0 : Nat) : Int) = 0 by rfl] at l2
      cases f2 : (List.range' 0 (css.map tupI).length).find? (fun i => meets (intsP ((css.map tupI).getD i .none)) sw) with
      | some i =>
        obtain ⟨env', e2⟩ := l2.1 i f2
        generalize css.map tupI = L at *
        exact fnM_exc hc rfl (env := env') (by simp [b_check_script, startE, e0, rg, e1, e2])
      | none =>
        obtain ⟨x2, e2⟩ := l2.2 f2
        have l3 := loop_first (f := (cIf (fBT (isD true) (fFn 2 m_first_of (fCons (fB ixD (fV 2) (fV 4)) (fCons (fFn 1 m_resting (fCons (fSl false (fV 2) (fSo (fC (arg2 max2) (fCons (fK (.int 0)) (fCons (fB subD (fV 4) (fB ixD (fV 0) (fK (.int 5)))) fNil)))) (fSo (fV 4))) fNil)) fNil))) (fK .none)) (cRaise "Gap" (fCons (fV 4) fNil)) cNx)) (C := "Gap") (a := some (.p (szD n a s w t d))) (b := some (.p (.tuple SW))) (c := some (.p (.tuple (css.map tupI)))) (d := some (.p (.int most))) (st := st) (fun i => meets (intsP ((css.map tupI).getD i .none)) (backI d (css.map tupI) i)) (css.map tupI).length 0 x2 (fun i h1 h2 => by
          have hi : i < css.length := by rw [List.length_map] at h2; omega
          have ix := ix_get (css.map tupI) i (by rw [List.length_map]; exact hi) st
          obtain ⟨c, _, ec⟩ := get i hi
          show _ = if meets (intsP ((css.map tupI).getD i .none)) (backI d (css.map tupI) i) then _ else _
          rw [ec] at ix ⊢
          rw [ints_tup, back_css]
          have sl : slD false (.p (.tuple (css.map tupI))) (some (max 0 ((i : Int) - d))) (some (i : Int)) st = .ok (.p (.tuple (((css.take i).drop (i - d.toNat)).map tupI))) st := by
            show R.ok (D.p (.tuple (cutG (css.map tupI) _ _))) st = _
            rw [cut_back _ z.d1 (by rw [List.length_map]; omega), ← List.map_take, ← List.map_drop]
          have hB : ∀ e ∈ (css.take i).drop (i - d.toNat), (e.length : Int) = t := fun e he => (hf e (List.mem_of_mem_take (List.mem_of_mem_drop he))).1
          have lB := flat_len hB
          have kB : ((css.take i).drop (i - d.toNat)).length ≤ css.length := by rw [List.length_drop, List.length_take]; omega
          have t2 := z.t2
          have t1 := z.t1
          have pB : (((css.take i).drop (i - d.toNat)).length : Int) * t ≤ 10000 * 8 := Int.mul_le_mul (by omega) (by omega) (by omega) (by omega)
          have er := m_rest_eq (st := st) hc (css := (css.take i).drop (i - d.toNat)) (by omega)
          generalize (css.take i).drop (i - d.toNat) = B at sl er ⊢
          obtain ⟨r, e3, e4⟩ := cond c B.flatten (.p (.list (B.flatten.map .int))) (fun v => inS_L false v B.flatten st)
          have mx : max2 (.p (.int 0)) (.p (.int ((i : Int) - d))) st = .ok (.p (.int (max 0 ((i : Int) - d)))) st := rfl
          generalize B.flatten.map PyData.int = BF at er e3
          generalize B.map tupI = BT at sl er
          generalize css.map tupI = L at ix sl ⊢
          cases hm : meets c B.flatten with
          | true => rw [hm] at e4; simp [ix, sz_at5, fSl, fSo, mx, sl, er, e3, e4]
          | false => rw [hm] at e4; simp [ix, sz_at5, fSl, fSo, mx, sl, er, e3, e4])
        rw [show ((0 : Nat) : Int) = 0 by rfl] at l3
        cases f3 : (List.range' 0 (css.map tupI).length).find? (fun i => meets (intsP ((css.map tupI).getD i .none)) (backI d (css.map tupI) i)) with
        | some i =>
          obtain ⟨env', e3⟩ := l3.1 i f3
          generalize css.map tupI = L at *
          exact fnM_exc hc rfl (env := env') (by simp [b_check_script, startE, e0, rg, e1, e2, e3])
        | none =>
          obtain ⟨x3, e3⟩ := l3.2 f3
          generalize css.map tupI = L at *
          exact fnM_nx hc rfl (env := [some (.p (szD n a s w t d)), some (.p (.tuple SW)), some (.p (.tuple L)), some (.p (.int most)), x3]) (by simp [b_check_script, startE, e0, rg, e1, e2, e3])
  | dict _ => cases hp
  | _ => exact bad 0 rfl
end
end MV

set_option Elab.async false
set_option linter.all false
set_option maxRecDepth 100000
set_option maxHeartbeats 2000000
namespace MV
open PySem
local instance : Tbs := ⟨[]⟩
/-! ## what may be asked -/
def mayI (n : Int) (sw others : List Int) : List Int := (upI n.toNat).filter fun v => !sw.contains v && !others.contains v
theorem countP_or {α : Type} (p q : α → Bool) : ∀ l : List α, (l.filter fun x => p x || q x).length ≤ (l.filter p).length + (l.filter q).length
  | [] => Nat.le_refl _
  | x :: l => by
    have ih := countP_or p q l
    cases hp : p x <;> cases hq : q x <;> simp [List.filter_cons, hp, hq] <;> omega
theorem one_of {a : Int} : ∀ {l : List Int}, l.Nodup → (l.filter fun v => v == a).length ≤ 1
  | [], _ => by simp
  | x :: l, h => by
    obtain ⟨h1, h2⟩ := List.nodup_cons.mp h
    by_cases c : x = a
    · subst c
      have : (l.filter fun v => v == x) = [] := List.filter_eq_nil_iff.mpr fun v hv e => h1 (by rw [← eq_of_beq e]; exact hv)
      simp [List.filter_cons, this]
    · have ih := one_of (a := a) h2
      simp [List.filter_cons, c]
      exact ih
theorem few_in {l : List Int} (h : l.Nodup) : ∀ A : List Int, (l.filter A.contains).length ≤ A.length
  | [] => by simp
  | a :: A => by
    have ih := few_in h A
    have e : (a :: A).contains = fun v => (v == a) || A.contains v := by
      funext v
      rw [List.contains_cons]
    rw [e]
    have := countP_or (fun v => v == a) A.contains l
    have := one_of (a := a) h
    rw [List.length_cons]
    omega
theorem filter_parts {α : Type} (p : α → Bool) : ∀ l : List α, (l.filter p).length + (l.filter fun x => !p x).length = l.length
  | [] => rfl
  | x :: l => by
    have ih := filter_parts p l
    cases hp : p x <;> simp [List.filter_cons, hp] <;> omega
theorem may_many (n : Int) (sw others : List Int) : n ≤ ((mayI n sw others).length : Int) + sw.length + others.length := by
  have e : (fun v => !sw.contains v && !others.contains v) = fun v => !((sw ++ others).contains v) := by
    funext v
    rw [← Bool.not_or]
    congr 1
    cases h1 : sw.contains v <;> cases h2 : others.contains v <;> simp_all
  have h1 := filter_parts (sw ++ others).contains (upI n.toNat)
  have h2 := few_in (upI_nodup n.toNat) (sw ++ others)
  rw [upI_len] at h1
  rw [List.length_append] at h2
  unfold mayI
  rw [e]
  omega
theorem may_lt (n : Int) (sw others : List Int) : (mayI n sw others).Pairwise (· < ·) := (upI_lt _).filter _
theorem may_mem {n v : Int} {sw others : List Int} (h : v ∈ mayI n sw others) : (0 ≤ v ∧ v < n) ∧ v ∉ sw ∧ v ∉ others := by
  obtain ⟨h1, h2⟩ := List.mem_filter.mp h
  have := upI_mem h1
  simp at h2
  exact ⟨by omega, h2⟩
section
variable {n a s w t d : Int} {st : Sto}
theorem m_askable_eq (hc : CS st) (z : Sz n a s w t d) {sw : List Int} {css : List (List Int)} (hl : css.flatten.length ≤ 1000000) :
    m_askable [.p (szD n a s w t d), .p (.tuple (sw.map .int)), .p (.tuple (css.map tupI))] st = .ok (.p (.list ((mayI n sw css.flatten).map .int))) st := by
  have er := m_rest_eq (st := st) hc hl
  have n1 := z.n1
  have n2 := z.n2
  have lz : lineN = 1000000 := rfl
  generalize css.flatten = R at er ⊢
  have rg : ∀ q, rng1 [.p (.int n)] q = .ok (((upI n.toNat).map PyData.int).map .p) q := fun q => by
    rw [rng1_i q (by omega), upI_rng]
  have i1 := fun v => inS_T true v sw
  have i2 := fun v => inS_L true v R
  generalize sw.map PyData.int = SW at i1 ⊢
  generalize hL : R.map PyData.int = L at er i2
  have e := comp_pure (t := gN 4) (ft := fAnd (fBT (inS true) (fV 4) (fV 1)) (fBT (inS true) (fV 4) (fV 3))) (fe := fV 4) (vs := [4]) (fi := fR rng1 (fCons (fB ixD (fV 0) (fK (.int 0))) fNil)) (env := [some (.p (szD n a s w t d)), some (.p (.tuple SW)), some (.p (.tuple (css.map tupI))), some (.p (.list L)), none]) (st := st) (xs := (upI n.toNat).map .int)
    (fun x => !sw.contains (valI x) && !R.contains (valI x)) id (by simp only [fR_eq, fCons_eq, fB_eq]; simp [sz_at0, rg]) hc (by rw [List.length_map, upI_len]; omega) (fun x hx => by
      obtain ⟨v, _, rfl⟩ := List.mem_map.mp hx
      refine ⟨[some (.p (szD n a s w t d)), some (.p (.tuple SW)), some (.p (.tuple (css.map tupI))), some (.p (.list L)), some (.p (.int v))], rfl, fun q _ => ⟨?_, fun _ => rfl⟩⟩
      by_cases h1 : v ∈ sw <;> by_cases h2 : v ∈ R <;> simp [i1, i2, h1, h2, valI])
  rw [List.map_id] at e
  have ef : ((upI n.toNat).map PyData.int).filter (fun x => !sw.contains (valI x) && !R.contains (valI x)) = (mayI n sw R).map .int := by
    rw [List.filter_map]
    rfl
  rw [ef] at e
  refine fnM_ret hc rfl ?_
  generalize css.map tupI = C at er e ⊢
  simp only [b_askable, startE]
  simp [er, e]
/-! ### the law's own looking -/
theorem shaped_tups (css : List (List Int)) : SeqAt.shaped (.list (css.map tupI)) = true := by
  have h1 : PyData.canLayAll0 (css.map tupI) = true := by
    induction css with
    | nil => rfl
    | cons c r ih => simp [tupI, PyData.canLayAll0, PyData.canLay0, lay_ints, ih]
  have h2 : PyData.depthAll (css.map tupI) ≤ 1 := by
    induction css with
    | nil => simp [PyData.depthAll]
    | cons c r ih =>
      have := ih (by simpa [tupI, PyData.canLayAll0, PyData.canLay0, lay_ints] using h1)
      simp [tupI, PyData.depthAll, PyData.depth, depth_ints]
      omega
  simp [SeqAt.shaped, PyData.canLay0, PyData.depth, h1]
  omega
theorem eq_tups_nil (neg : Bool) (css : List (List Int)) (st : Sto) : eqD neg (.p (.list (css.map tupI))) (.p (.list [])) st = .ok (.p (.bool (if neg then !css.isEmpty else css.isEmpty))) st := by
  have h1 := shaped_tups css
  have h2 : SeqAt.shaped (.list []) = true := by decide
  have h3 : PyData.eqv (.list (css.map tupI)) (.list []) = css.isEmpty := by
    cases css with
    | nil => simp [PyData.eqv, PyData.eqvAll]
    | cons c r => simp [PyData.eqv, PyData.eqvAll]
  generalize css.map tupI = C at h1 h3 ⊢
  simp [eqD, eqG, dat, h1, h2, h3]
theorem none_has (css : List (List Int)) (v : Int) : (css.filter fun c => c.contains v).isEmpty = !css.flatten.contains v := by
  induction css with
  | nil => rfl
  | cons c r ih =>
    rw [List.filter_cons]
    by_cases h : v ∈ c
    · simp [h]
    · simp [h]
      simpa using ih
def myBody : SF := (cIf (fAnd (fBT (inS true) (fV 4) (fV 1)) (fBT (eqD false) (fLc false [5] (fW (fV 2)) (gN 5) (fBT (inS false) (fV 4) (fV 5)) (fV 5)) (fLst fNil))) (cExpr (fM appD (fV 3) (fCons (fV 4) fNil))) cNx)
theorem m_may_eq (hc : CS st) (z : Sz n a s w t d) {sw : List Int} {css : List (List Int)} (hl : css.length ≤ 1000000) :
    m_law_stand_may [.p (szD n a s w t d), .p (.tuple (sw.map .int)), .p (.tuple (css.map tupI))] st = .ok (.p (.list ((mayI n sw css.flatten).map .int))) st := by
  have n1 := z.n1
  have n2 := z.n2
  have lz : lineN = 1000000 := rfl
  have i1 := fun v => inS_T true v sw
  generalize sw.map PyData.int = SW at i1 ⊢
  generalize hR : css.flatten = R
  let P : Int → Bool := fun v => !sw.contains v && !R.contains v
  have lc : ∀ (v : Int) (l : Option D) (q : Sto), CS q → fLc false [5] (fW (fV 2)) (gN 5) (fBT (inS false) (fV 4) (fV 5)) (fV 5) [some (.p (szD n a s w t d)), some (.p (.tuple SW)), some (.p (.tuple (css.map tupI))), some (.r st.length), some (.p (.int v)), l] q = .ok (.p (.list ((css.filter fun c => c.contains v).map tupI))) q := fun v l q hq => by
    have e := comp_pure (t := gN 5) (ft := fBT (inS false) (fV 4) (fV 5)) (fe := fV 5) (vs := [5]) (fi := fW (fV 2)) (env := [some (.p (szD n a s w t d)), some (.p (.tuple SW)), some (.p (.tuple (css.map tupI))), some (.r st.length), some (.p (.int v)), l]) (st := q) (xs := css.map tupI)
      (fun x => (intsP x).contains v) id rfl hq (by rw [List.length_map]; exact hl) (fun x hx => by
        obtain ⟨c, _, rfl⟩ := List.mem_map.mp hx
        refine ⟨[some (.p (szD n a s w t d)), some (.p (.tuple SW)), some (.p (.tuple (css.map tupI))), some (.r st.length), some (.p (.int v)), some (.p (tupI c))], rfl, fun u _ => ⟨?_, fun _ => rfl⟩⟩
        have i2 := inS_T false v c u
        rw [ints_tup]
        show (inS false (.p (.int v)) (.p (.tuple (c.map .int))) u).bind boolD = _
        rw [i2]
        rfl)
    rw [List.map_id, List.filter_map] at e
    have ef : ((fun x => (intsP x).contains v) ∘ tupI) = fun c : List Int => c.contains v := by
      funext c
      show (intsP (tupI c)).contains v = _
      rw [ints_tup]
    rw [ef] at e
    exact e
  have rg := rng1_i (j := n) (st ++ [.lst (([] : List PyData).map .p)]) (by omega)
  obtain ⟨env', q', el, e1, l4, l5, e2⟩ := loop_rng (j := 4) (f := myBody) (fun i env q => q = st ++ [.lst ((((upI i.toNat).filter P).map PyData.int).map .p)] ∧ ∃ l4 l5, env = [some (.p (szD n a s w t d)), some (.p (.tuple SW)), some (.p (.tuple (css.map tupI))), some (.r st.length), l4, l5]) n.toNat 0 (fun i env q lo hi ⟨hq, l4, l5, he⟩ => by
    subst hq he
    have hcs := hc.app (((upI i.toNat).filter P).map PyData.int)
    have el := lc i l5 _ hcs
    have en := eq_tups_nil false (css.filter fun c => c.contains i) (st ++ [.lst ((((upI i.toNat).filter P).map PyData.int).map .p)])
    have ups : upI (i + 1).toNat = upI i.toNat ++ [i] := by
      unfold upI
      rw [show (i + 1).toNat = i.toNat + 1 by omega, List.range_succ, List.map_append]
      simp
      omega
    rw [none_has, hR] at en
    have ll : ((upI i.toNat).filter P).length ≤ i.toNat := by
      have := List.length_filter_le P (upI i.toNat)
      rw [upI_len] at this
      exact this
    rw [ups, List.filter_append]
    have ap := app_last (st := st) (ps := ((upI i.toNat).filter P).map PyData.int) (x := .int i) (by rw [List.length_map]; omega)
    have ty := tyL_last (st := st) (ps := ((upI i.toNat).filter P).map PyData.int)
    refine ⟨[some (.p (szD n a s w t d)), some (.p (.tuple SW)), some (.p (.tuple (css.map tupI))), some (.r st.length), some (.p (.int i)), l5], st ++ [.lst (((((upI i.toNat).filter P) ++ [i].filter P).map PyData.int).map .p)], ?_, rfl, _, _, rfl⟩
    rw [List.map_append]
    have fP : [i].filter P = if P i then [i] else [] := by
      rw [List.filter_cons, List.filter_nil]
    rw [fP]
    generalize ((upI i.toNat).filter P).map PyData.int = ps at *
    generalize (css.filter fun c => c.contains i).map tupI = FC at el en
    by_cases h1 : i ∈ sw <;> by_cases h2 : i ∈ R <;> simp [myBody, i1, h1, h2, el, en, P, mkLst, ap, ty]) (env := [some (.p (szD n a s w t d)), some (.p (.tuple SW)), some (.p (.tuple (css.map tupI))), some (.r st.length), none, none]) (st := st ++ [.lst (([] : List PyData).map .p)]) ⟨rfl, none, none, rfl⟩
  subst e1 e2
  rw [show ((0 : Int) + (n.toNat : Nat)).toNat = n.toNat by omega] at el
  have fin : (upI n.toNat).filter P = mayI n sw R := rfl
  rw [fin] at el
  unfold myBody at el
  have mr : mkRef [] st = .ok (.r st.length) (st ++ [.lst (([] : List PyData).map .p)]) := rfl
  refine fnM_frz (k := st.length) (ext := [.lst (((mayI n sw R).map PyData.int).map .p)]) hc rfl ?_ (Nat.le_refl _) (by simp)
  generalize (mayI n sw R).map PyData.int = M at el ⊢
  generalize css.map tupI = C at el ⊢
  have hs : startE 6 [D.p (szD n a s w t d), .p (.tuple SW), .p (.tuple C)] = [some (.p (szD n a s w t d)), some (.p (.tuple SW)), some (.p (.tuple C)), none, none, none] := rfl
  rw [hs]
  simp only [List.map_nil] at rg el mr
  simp [b_law_stand_may, fRef, mr, sz_at0, rg, el]
end
end MV

set_option Elab.async false
set_option linter.all false
set_option maxRecDepth 100000
set_option maxHeartbeats 4000000
namespace MV
open PySem
local instance : Tbs := ⟨[]⟩
/-! ## drawn sizes at the rims -/
section
variable {rs st : Sto}
def SzG (rs : Sto) (r : R D) : Prop := ∃ n a s w t d st', r = .ok (.p (szD n a s w t d)) st' ∧ PS rs st' ∧ Sz n a s w t d
theorem rims_g (hp : PS rs st) {lv : Int} (h1 : 1 ≤ lv) (h2 : lv ≤ 10000) : SzG rs (m_law_stand_rims [.r 1, .p (.int lv)] st) := by
  have l6 : 6 ≤ lineN := by decide
  obtain ⟨way, s1, e1, p1, w0, w1⟩ := draw_g (many := 4) hp (by omega) (by omega)
  obtain ⟨more, s2, e2, p2, m0, m1⟩ := draw_g (many := 3) p1 (by omega) (by omega)
  have hs : startE 7 [D.r 1, .p (.int lv)] = [some (.r 1), some (.p (.int lv)), none, none, none, none, none] := rfl
  by_cases c0 : way = 0
  · obtain ⟨x, s3, e3, p3, x0, x1⟩ := draw_g (many := 6) p2 (by omega) (by omega)
    obtain ⟨y, s4, e4, p4, y0, y1⟩ := draw_g (many := 2) p3 (by omega) (by omega)
    obtain ⟨u, s5, e5, p5, u0, u1⟩ := draw_g (many := 4) p4 (by omega) (by omega)
    obtain ⟨v, s6, e6, p6, v0, v1⟩ := draw_g (many := lv) p5 (by omega) (by omega)
    have mm := mulD_i (st := s4) (mok (i := 3 + x) (j := y + 1) (by omega) (by omega))
    have q : (3 + x) * (y + 1) ≤ 8 * 2 := Int.mul_le_mul (by omega) (by omega) (by omega) (by omega)
    have q' : 0 ≤ (3 + x) * (y + 1) := Int.mul_nonneg (by omega) (by omega)
    have q2 : 1 * 1 ≤ (3 + x) * (y + 1) := Int.mul_le_mul (by omega) (by omega) (by omega) (by omega)
    refine ⟨(3 + x) * (y + 1) + more, 1, 3 + x + u, 1 + v, 3 + x, y, s6, fnM_ret p6.cs (hp.ll p6) ?_, p6, by constructor <;> omega⟩
    rw [hs]
    simp [b_law_stand_rims, e1, e2, e3, e4, e5, e6, cPar, c0, eqD_i, mm, mkTup, l6]
  by_cases c1 : way = 1
  · obtain ⟨x, s3, e3, p3, x0, x1⟩ := draw_g (many := 3) p2 (by omega) (by omega)
    obtain ⟨y, s4, e4, p4, y0, y1⟩ := draw_g (many := 2) p3 (by omega) (by omega)
    obtain ⟨u, s5, e5, p5, u0, u1⟩ := draw_g (many := 4) p4 (by omega) (by omega)
    obtain ⟨v, s6, e6, p6, v0, v1⟩ := draw_g (many := lv) p5 (by omega) (by omega)
    have q : (y + 1 + more) * (4 + x) ≤ 4 * 6 := Int.mul_le_mul (by omega) (by omega) (by omega) (by omega)
    refine ⟨y + 1 + more, 4 + x, 4 + x + u, 1 + v, 1, y, s6, fnM_ret p6.cs (hp.ll p6) ?_, p6, by constructor <;> omega⟩
    rw [hs]
    simp [b_law_stand_rims, e1, e2, e3, e4, e5, e6, cPar, c0, c1, eqD_i, mkTup, l6]
  by_cases c2 : way = 2
  · obtain ⟨x, s3, e3, p3, x0, x1⟩ := draw_g (many := 3) p2 (by omega) (by omega)
    have dv : ∃ k : Int, divD (.p (.int 25)) (.p (.int (4 + x))) s3 = .ok (.p (.int k)) s3 ∧ (x = 0 ∧ k = 6 ∨ x = 1 ∧ k = 5 ∨ x = 2 ∧ k = 4) := by
      have : x = 0 ∨ x = 1 ∨ x = 2 := by omega
      rcases this with rfl | rfl | rfl
      · exact ⟨6, rfl, .inl ⟨rfl, rfl⟩⟩
      · exact ⟨5, rfl, .inr (.inl ⟨rfl, rfl⟩)⟩
      · exact ⟨4, rfl, .inr (.inr ⟨rfl, rfl⟩)⟩
    obtain ⟨k, ek, hk⟩ := dv
    obtain ⟨y, s4, e4, p4, y0, y1⟩ := draw_g (many := k - 1) p3 (by omega) (by omega)
    obtain ⟨u, s5, e5, p5, u0, u1⟩ := draw_g (many := 4) p4 (by omega) (by omega)
    obtain ⟨v, s6, e6, p6, v0, v1⟩ := draw_g (many := lv) p5 (by omega) (by omega)
    have mm := mulD_i (st := s4) (mok (i := 4 + x) (j := 2 + y) (by omega) (by omega))
    have hf : ∃ h : Int, divD (.p (.int more)) (.p (.int 2)) s4 = .ok (.p (.int h)) s4 ∧ 0 ≤ h ∧ h ≤ 1 := by
      have : more = 0 ∨ more = 1 ∨ more = 2 := by omega
      rcases this with rfl | rfl | rfl
      · exact ⟨0, rfl, by omega, by omega⟩
      · exact ⟨0, rfl, by omega, by omega⟩
      · exact ⟨1, rfl, by omega, by omega⟩
    obtain ⟨h, eh, hh0, hh1⟩ := hf
    refine ⟨2 + y + h, 4 + x, (4 + x) * (2 + y) + u, 1 + v, 2 + y, 0, s6, fnM_ret p6.cs (hp.ll p6) ?_, p6, ?_⟩
    · rw [hs]
      simp [b_law_stand_rims, e1, e2, e3, ek, e4, e5, e6, eh, cPar, c0, c1, c2, eqD_i, mm, mkTup, l6]
    · rcases hk with ⟨rfl, rfl⟩ | ⟨rfl, rfl⟩ | ⟨rfl, rfl⟩ <;> constructor <;> omega
  · obtain ⟨x, s3, e3, p3, x0, x1⟩ := draw_g (many := 6) p2 (by omega) (by omega)
    obtain ⟨y, s4, e4, p4, y0, y1⟩ := draw_g (many := 2) p3 (by omega) (by omega)
    obtain ⟨u, s5, e5, p5, u0, u1⟩ := draw_g (many := 4) p4 (by omega) (by omega)
    obtain ⟨v, s6, e6, p6, v0, v1⟩ := draw_g (many := lv) p5 (by omega) (by omega)
    have q : (3 + x + 1 + more) * (1 + y) ≤ 11 * 2 := Int.mul_le_mul (by omega) (by omega) (by omega) (by omega)
    refine ⟨3 + x + 1 + more, 1 + y, 1 + y + u, 1 + v, 1, 3 + x, s6, fnM_ret p6.cs (hp.ll p6) ?_, p6, by constructor <;> omega⟩
    rw [hs]
    simp [b_law_stand_rims, e1, e2, e3, e4, e5, e6, cPar, c0, c1, c2, eqD_i, mkTup, l6]
theorem addL {x y : List PyData} (st : Sto) (h : x.length + y.length ≤ lineN) : addD (.p (.list x)) (.p (.list y)) st = .ok (.p (.list (x ++ y))) st := if_pos h
theorem great_sz_g (hp : PS rs st) : SzG rs (m_law_stand_great [.r 1] st) := by
  have l6 : 6 ≤ lineN := by decide
  have l4 : 4 ≤ lineN := by decide
  have l5 : 5 ≤ lineN := by decide
  have l2 : 2 ≤ lineN := by decide
  have l7 : 7 ≤ lineN := by decide
  obtain ⟨x, s1, e1, p1, hx⟩ := pick_g (ps := [.tuple [.int 40, .int 1, .int 20, .int 4, .int 8], .tuple [.int 40, .int 1, .int 20, .int 8, .int 4], .tuple [.int 9, .int 6, .int 6, .int 1, .int 8], .tuple [.int 5, .int 6, .int 30, .int 5, .int 0], .tuple [.int 8, .int 1, .int 52, .int 8, .int 0], .tuple [.int 20, .int 2, .int 20, .int 4, .int 4], .tuple [.int 1, .int 1, .int 59, .int 1, .int 0]]) hp (by decide) (by decide)
  obtain ⟨y, s2, e2, p2, y0, y1⟩ := draw_g (many := 10000) p1 (by omega) (by omega)
  obtain ⟨w, s3, e3, p3, hw⟩ := pick_i (is := [1, 2, 10000, 1 + y]) p2 (by simp) (by simp)
  have hw : 1 ≤ w ∧ w ≤ 10000 := by simp at hw; omega
  simp only [List.map_cons, List.map_nil] at e3
  have hs : startE 7 [D.r 1] = [some (.r 1), none, none, none, none, none, none] := rfl
  have fin : ∀ n a s t d : Int, x = .tuple [.int n, .int a, .int s, .int t, .int d] → Sz n a s w t d → SzG rs (m_law_stand_great [.r 1] st) := fun n a s t d hx z => by
    subst hx
    refine ⟨n, a, s, w, t, d, s3, fnM_ret p3.cs (hp.ll p3) ?_, p3, z⟩
    rw [hs]
    simp [b_law_stand_great, mkTup, mkLst, l2, l4, l5, l6, l7, addL, e1, e2, e3]
  simp only [List.mem_cons, List.not_mem_nil, or_false] at hx
  rcases hx with h | h | h | h | h | h | h <;> exact fin _ _ _ _ _ h (by constructor <;> omega)
/-! ## drawn told records, drawn scripts -/
variable {n a s w t d : Int}
theorem addT' {x y : List PyData} (st : Sto) (h : x.length + y.length ≤ lineN) : addD (.p (.tuple x)) (.p (.tuple y)) st = .ok (.p (.tuple (x ++ y))) st := if_pos h
/-- told records that are right -/
structure Swn (n t d : Int) (sw : List Int) : Prop where
  up : sw.Pairwise (· < ·)
  mem : ∀ v ∈ sw, 0 ≤ v ∧ v < n
  few : (sw.length : Int) ≤ n - t * (d + 1)
theorem cut_front {α : Type} (l : List α) {k : Int} (h : 0 ≤ k) : cutG l none (some k) = l.take k.toNat := by
  unfold cutG HT.sIx
  simp only [List.drop_zero, Nat.sub_zero]
  rw [if_neg (by omega), List.take_eq_take_iff]
  omega
theorem up_nodup {l : List Int} (h : l.Nodup) : (sortI l).Pairwise (· < ·) := by
  have nd : (sortI l).Nodup := (sortI_perm l).nodup_iff.mpr h
  exact ((sortI_sorted l).and nd).imp fun ⟨x, y⟩ => by omega
theorem sort_ints (ns : List Int) (st : Sto) : sortS (.p (.list (ns.map .int))) st = .ok (.p (.list ((sortI ns).map .int))) st := by
  show srtQ _ st = _
  unfold srtQ
  rw [intsOf_map]
theorem sworn_g (hp : PS rs st) (z : Sz n a s w t d) : ∃ (sw : List Int) (st' : Sto), m_law_stand_sworn [.r 1, .p (szD n a s w t d)] st = .ok (.p (.tuple (sw.map .int))) st' ∧ PS rs st' ∧ Swn n t d sw := by
  have n1 := z.n1
  have n2 := z.n2
  have t1 := z.t1
  have t2 := z.t2
  have re := z.re
  have pt : 1 * 1 ≤ t * (d + 1) := Int.mul_le_mul t1 (by have := z.d1; omega) (by omega) (by omega)
  obtain ⟨q, s1, e1, p1, _, _⟩ := draw_g (many := 3) hp (by omega) (by omega)
  have hs : startE 9 [D.r 1, .p (szD n a s w t d)] = [some (.r 1), some (.p (szD n a s w t d)), none, none, none, none, none, none, none] := rfl
  have fin : ∀ (k : Int) (s2 : Sto), PS rs s2 → 0 ≤ k → k ≤ n - t * (d + 1) → (∀ f : SF, cSeq (cAsg (gN 8) (fIf (fBT (eqD false) (fFn 2 m_law_draw (fCons (fV 0) (fCons (fK (.int 3)) fNil))) (fK (.int 0))) (fFn 2 m_law_draw (fCons (fV 0) (fCons (fB addD (fB subD (fV 2) (fB mulD (fV 6) (fB addD (fV 7) (fK (.int 1))))) (fK (.int 1))) fNil))) (fK (.int 0)))) f [some (.r 1), some (.p (szD n a s w t d)), oi n, oi a, oi s, oi w, oi t, oi d, none] st = f [some (.r 1), some (.p (szD n a s w t d)), oi n, oi a, oi s, oi w, oi t, oi d, oi k] s2) →
      ∃ (sw : List Int) (st' : Sto), m_law_stand_sworn [.r 1, .p (szD n a s w t d)] st = .ok (.p (.tuple (sw.map .int))) st' ∧ PS rs st' ∧ Swn n t d sw := fun k s2 p2 k0 k1 hh => by
    obtain ⟨js, s3, e3, p3, hj⟩ := turned_g p2 (m := n) (by omega) (by omega)
    have nd : (js.take k.toNat).Nodup := (List.take_sublist _ _).nodup (hj.nodup_iff.mpr (upI_nodup _))
    have es := sort_ints (js.take k.toNat) s3
    have sl : slD false (.p (.list (js.map .int))) none (some k) s3 = .ok (.p (.list ((js.take k.toNat).map .int))) s3 := by
      show R.ok (D.p (.list (cutG (js.map PyData.int) none (some k)))) s3 = _
      rw [cut_front _ k0, List.map_take]
    refine ⟨sortI (js.take k.toNat), s3, fnM_ret p3.cs (hp.ll p3) ?_, p3, up_nodup nd, fun v hv => ?_, ?_⟩
    · rw [hs]
      unfold b_law_stand_sworn
      have g : ∀ (f : SF), cSeq (cAsg (gT [2, 3, 4, 5, 6, 7]) (fV 1)) f [some (.r 1), some (.p (szD n a s w t d)), none, none, none, none, none, none, none] st = f [some (.r 1), some (.p (szD n a s w t d)), oi n, oi a, oi s, oi w, oi t, oi d, none] st := fun f => rfl
      rw [g, hh]
      have t3 : ∀ (x : List PyData) q, tupOf (.p (.list x)) q = .ok (.p (.tuple x)) q := fun _ _ => rfl
      generalize (js.take k.toNat).map PyData.int = C at es sl ⊢
      generalize js.map PyData.int = J at e3 sl
      generalize (sortI (js.take k.toNat)).map PyData.int = T at es ⊢
      unfold oi
      simp [e3, fSl, fNo, fSo, sl, es, t3]
    · have m1 := List.mem_of_mem_take ((sortI_perm _).mem_iff.mp hv)
      have := upI_mem (hj.mem_iff.mp m1)
      omega
    · rw [(sortI_perm _).length_eq, List.length_take]
      omega
  by_cases c : q = 0
  · obtain ⟨k, s2, e2, p2, k0, k1⟩ := draw_g (many := n - t * (d + 1) + 1) p1 (by omega) (by omega)
    have mm := mulD_i (st := s1) (mok (i := t) (j := d + 1) (by omega) (by omega))
    exact fin k s2 p2 k0 (by omega) fun f => by simp [oi, e1, c, eqD_i, mm, e2]
  · exact fin 0 s1 p1 (by omega) (by omega) fun f => by simp [oi, e1, c, eqD_i]
end
end MV

set_option Elab.async false
set_option linter.all false
set_option maxRecDepth 100000
set_option maxHeartbeats 4000000
namespace MV
open PySem
local instance : Tbs := ⟨[]⟩
/-! ## scripts that are right -/
structure Scr (n t d : Int) (sw : List Int) (css : List (List Int)) : Prop where
  up : ∀ c ∈ css, c.Pairwise (· < ·)
  len : ∀ c ∈ css, (c.length : Int) = t
  mem : ∀ c ∈ css, ∀ v ∈ c, 0 ≤ v ∧ v < n
  told : ∀ c ∈ css, ∀ v ∈ c, v ∉ sw
  gap : ∀ (i : Nat) (h : i < css.length), ∀ v ∈ css[i], v ∉ ((css.take i).drop (i - d.toNat)).flatten
theorem Scr.nil {n t d : Int} {sw : List Int} : Scr n t d sw [] := ⟨fun _ h => (by cases h), fun _ h => (by cases h), fun _ h => (by cases h), fun _ h => (by cases h), fun i h => (by cases h)⟩
theorem Scr.snoc {n t d : Int} {sw : List Int} {css : List (List Int)} {c : List Int} (h : Scr n t d sw css) (h1 : c.Pairwise (· < ·)) (h2 : (c.length : Int) = t) (h3 : ∀ v ∈ c, 0 ≤ v ∧ v < n) (h4 : ∀ v ∈ c, v ∉ sw) (h5 : ∀ v ∈ c, v ∉ (css.drop (css.length - d.toNat)).flatten) : Scr n t d sw (css ++ [c]) := by
  have or_ : ∀ e ∈ css ++ [c], e ∈ css ∨ e = c := fun e he => by simpa using he
  refine ⟨fun e he => (or_ e he).elim (h.up e) fun z => z ▸ h1, fun e he => (or_ e he).elim (h.len e) fun z => z ▸ h2, fun e he => (or_ e he).elim (h.mem e) fun z => z ▸ h3, fun e he => (or_ e he).elim (h.told e) fun z => z ▸ h4, fun i hi v hv => ?_⟩
  rw [List.length_append, List.length_singleton] at hi
  by_cases c1 : i < css.length
  · rw [List.getElem_append_left c1] at hv
    rw [List.take_append_of_le_length (Nat.le_of_lt c1)]
    exact h.gap i c1 v hv
  · have e : i = css.length := by omega
    subst e
    rw [List.take_left']
    · exact h5 v (by simpa using hv)
    · rfl
theorem Scr.part {n t d : Int} {sw : List Int} {css : List (List Int)} (h : Scr n t d sw css) (a b : Nat) (hb : b ≤ css.length) : Scr n t d sw ((css.take b).drop a) := by
  have sub : ∀ e ∈ (css.take b).drop a, e ∈ css := fun e he => List.mem_of_mem_take (List.mem_of_mem_drop he)
  refine ⟨fun e he => h.up e (sub e he), fun e he => h.len e (sub e he), fun e he => h.mem e (sub e he), fun e he => h.told e (sub e he), fun i hi v hv => ?_⟩
  rw [List.length_drop, List.length_take] at hi
  have hi2 : a + i < css.length := by omega
  have e1 : ((css.take b).drop a)[i]'(by rw [List.length_drop, List.length_take]; exact hi) = css[a + i] := by
    rw [List.getElem_drop, List.getElem_take]
  rw [e1] at hv
  have g := h.gap (a + i) hi2 v hv
  intro hm
  refine g ?_
  obtain ⟨c, hc, hcv⟩ := List.mem_flatten.mp hm
  refine List.mem_flatten.mpr ⟨c, ?_, hcv⟩
  rw [List.take_drop, List.take_take, List.drop_drop, show min (a + i) b = a + i by omega] at hc
  have e2 : a + (i - d.toNat) = (a + i - d.toNat) + (a + (i - d.toNat) - (a + i - d.toNat)) := by omega
  rw [e2, ← List.drop_drop] at hc
  exact List.mem_of_mem_drop hc
theorem meets_no {c others : List Int} (h : ∀ v ∈ c, v ∉ others) : meets c others = false := by
  unfold meets
  rw [List.find?_eq_none.mpr (fun v hv => by simpa using h v hv)]
  rfl
theorem form_of {n t : Int} {c : List Int} (h1 : c.Pairwise (· < ·)) (h2 : (c.length : Int) = t) (h3 : ∀ v ∈ c, 0 ≤ v ∧ v < n) : formX n t (tupI c) = true := by
  have e := scan_of (hi := n - 1) c 0 0 (fun v hv => by have := h3 v hv; omega) h1
  simp [formX, riseX, tupI, tupLen, h2, e]
theorem Scr.fine {n t d : Int} {sw : List Int} {css : List (List Int)} (h : Scr n t d sw css) {most : Int} (hl : (css.length : Int) ≤ most) : chkX n t d sw most (.tuple (css.map tupI)) = none := by
  have get : ∀ i (hi : i < css.length), (css.map tupI).getD i .none = tupI css[i] := fun i hi => by
    rw [List.getD_eq_getElem?_getD, List.getElem?_map, List.getElem?_eq_getElem hi]
    rfl
  have ln : (css.map tupI).length = css.length := List.length_map ..
  have f1 : (List.range' 0 (css.map tupI).length).find? (fun i => !formX n t ((css.map tupI).getD i .none)) = none := List.find?_eq_none.mpr fun i hi => by
    rw [ln, List.mem_range'_1] at hi
    have hi2 : i < css.length := by omega
    have hm := List.getElem_mem hi2
    rw [get i hi2, form_of (h.up _ hm) (h.len _ hm) (h.mem _ hm)]
    decide
  have f2 : (List.range' 0 (css.map tupI).length).find? (fun i => meets (intsP ((css.map tupI).getD i .none)) sw) = none := List.find?_eq_none.mpr fun i hi => by
    rw [ln, List.mem_range'_1] at hi
    have hi2 : i < css.length := by omega
    rw [get i hi2, ints_tup, meets_no (h.told _ (List.getElem_mem hi2))]
    decide
  have f3 : (List.range' 0 (css.map tupI).length).find? (fun i => meets (intsP ((css.map tupI).getD i .none)) (backI d (css.map tupI) i)) = none := List.find?_eq_none.mpr fun i hi => by
    rw [ln, List.mem_range'_1] at hi
    have hi2 : i < css.length := by omega
    rw [get i hi2, ints_tup, back_css, meets_no (h.gap i hi2)]
    decide
  simp only [chkX]
  rw [if_neg (by rw [ln]; omega), f1, f2, f3]
section
variable {rs : Sto} {n a s w t d : Int} {st : Sto}
theorem may_enough (z : Sz n a s w t d) {sw : List Int} (hs : Swn n t d sw) {l : List (List Int)} (h : ∀ c ∈ l, (c.length : Int) = t) (hd : (l.length : Int) ≤ d) : t ≤ ((mayI n sw l.flatten).length : Int) := by
  have h1 := may_many n sw l.flatten
  have h2 := flat_len h
  have h3 := hs.few
  have h4 : (l.length : Int) * t ≤ d * t := Int.mul_le_mul_of_nonneg_right hd (by have := z.t1; omega)
  have h5 : t * (d + 1) = d * t + t := by rw [Int.mul_add, Int.mul_one, Int.mul_comm]
  omega
theorem pick_map (M : List Int) : (upI M.length).map (fun v => M.getD v.toNat 0) = M := by
  refine List.ext_getElem (by rw [List.length_map, upI_len]) fun i h1 h2 => ?_
  simp [upI, List.getElem?_eq_getElem h2]
theorem comp_at {t : TF} {fe : EF} {vs : List Nat} {fi : FI} {env : Ev} {st st1 : Sto} {xs : List PyData} (g : PyData → PyData) (hi : fi env st = .ok (xs.map .p) st1) (hc : CS st1) (hl : xs.length ≤ lineN)
    (h : ∀ x ∈ xs, ∃ e1, t (.p x) (wipeE env vs) = some e1 ∧ ∀ s, CS s → fe e1 s = .ok (.p (g x)) s) :
    fLc false vs fi t fYes fe env st = .ok (.p (.list (xs.map g))) st1 := by
  have e := comp_all (t := t) (fe := fe) (vs := vs) (fi := fun _ q => .ok (xs.map .p) q) (env := env) (st := st1) g rfl hc hl h
  unfold fLc at e ⊢
  rw [hi]
  exact e
theorem asked_g (hp : PS rs st) (z : Sz n a s w t d) {sw : List Int} {css : List (List Int)} (hl : css.length ≤ 1000000) (hm : t ≤ ((mayI n sw css.flatten).length : Int)) :
    ∃ (c : List Int) (st' : Sto), m_law_stand_asked [.r 1, .p (szD n a s w t d), .p (.tuple (sw.map .int)), .p (.tuple (css.map tupI))] st = .ok (.p (tupI c)) st' ∧ PS rs st' ∧ c.Pairwise (· < ·) ∧ (c.length : Int) = t ∧ ∀ v ∈ c, v ∈ mayI n sw css.flatten := by
  have em := m_may_eq (sw := sw) hp.cs z hl
  have n2 := z.n2
  have t1 := z.t1
  have lz : lineN = 1000000 := rfl
  have lM : (mayI n sw css.flatten).length ≤ n.toNat := by
    have := List.length_filter_le (fun v => !sw.contains v && !css.flatten.contains v) (upI n.toNat)
    rw [upI_len] at this
    exact this
  have up := may_lt n sw css.flatten
  generalize mayI n sw css.flatten = M at em hm lM up ⊢
  have nd : M.Nodup := up.imp fun h => by omega
  obtain ⟨is, s1, e1, p1, hi⟩ := turned_g hp (m := (M.length : Int)) (by omega) (by omega)
  rw [Int.toNat_natCast] at hi
  let f : Int → Int := fun v => M.getD v.toNat 0
  have pm : (is.map f).Perm M := by
    have := hi.map f
    rw [show (upI M.length).map f = M from pick_map M] at this
    exact this
  have cs : (is.take t.toNat).map f = (is.map f).take t.toNat := List.map_take ..
  have ndc : ((is.take t.toNat).map f).Nodup := by
    rw [cs]
    exact (List.take_sublist _ _).nodup (pm.nodup_iff.mpr nd)
  have sl : slD false (.p (.list (is.map .int))) none (some t) s1 = .ok (.p (.list ((is.take t.toNat).map .int))) s1 := by
    show R.ok (D.p (.list (cutG (is.map PyData.int) none (some t)))) s1 = _
    rw [cut_front _ (by omega), List.map_take]
  have ln : ∀ q, lenD (.p (.list (M.map .int))) q = .ok (.p (.int (M.length : Nat))) q := fun q => by simp [lenD, itemsD]
  have ix : ∀ v ∈ is, ∀ q, ixD (.p (.list (M.map .int))) (.p (.int v)) q = .ok (.p (.int (f v))) q := fun v hv q => by
    have := upI_mem (hi.mem_iff.mp hv)
    obtain ⟨k, hk, rfl⟩ : ∃ k : Nat, k < M.length ∧ v = (k : Nat) := ⟨v.toNat, by omega, by omega⟩
    have e : L2.atI ((M.map PyData.int).map D.p) (k : Int) = some (.p (.int M[k])) := L2.atI_nat (by rw [List.getElem?_map, List.getElem?_map, List.getElem?_eq_getElem hk]; rfl)
    have ef : f (k : Nat) = M[k] := by
      show M.getD _ 0 = _
      rw [Int.toNat_natCast, List.getD_eq_getElem?_getD, List.getElem?_eq_getElem hk]
      rfl
    rw [ef]
    generalize M.map PyData.int = MM at e
    simp [ixD, itemsD, e]
  have lt : (is.take t.toNat).length ≤ 1000000 := by
    have := hi.length_eq
    rw [upI_len] at this
    rw [List.length_take]
    omega
  have es := sort_ints ((is.take t.toNat).map f) s1
  have hs : startE 6 [D.r 1, .p (szD n a s w t d), .p (.tuple (sw.map .int)), .p (.tuple (css.map tupI))] = [some (.r 1), some (.p (szD n a s w t d)), some (.p (.tuple (sw.map .int))), some (.p (.tuple (css.map tupI))), none, none] := rfl
  have ec := comp_at (t := gN 5) (fe := fB ixD (fV 4) (fV 5)) (vs := [5]) (fi := fW (fSl false (fFn 2 m_law_turned (fCons (fV 0) (fCons (fC (arg1 lenD) (fCons (fV 4) fNil)) fNil))) fNo (fSo (fB ixD (fV 1) (fK (.int 4)))))) (env := [some (.r 1), some (.p (szD n a s w t d)), some (.p (.tuple (sw.map .int))), some (.p (.tuple (css.map tupI))), some (.p (.list (M.map .int))), none]) (st := st) (st1 := s1) (xs := (is.take t.toNat).map .int) (fun x => .int (f (valI x)))
    (by
      generalize M.map PyData.int = MM at ln
      generalize is.map PyData.int = IS at e1 sl
      generalize (is.take t.toNat).map PyData.int = TS at sl ⊢
      generalize sw.map PyData.int = SW
      generalize css.map tupI = C
      simp [ln, e1, fSl, fNo, fSo, sz_at4, sl, walkD]) p1.cs (by rw [List.length_map]; exact lt) (fun x hx => by
      obtain ⟨v, hv, rfl⟩ := List.mem_map.mp hx
      refine ⟨[some (.r 1), some (.p (szD n a s w t d)), some (.p (.tuple (sw.map .int))), some (.p (.tuple (css.map tupI))), some (.p (.list (M.map .int))), some (.p (.int v))], rfl, fun q _ => ?_⟩
      have := ix v (List.mem_of_mem_take hv) q
      generalize M.map PyData.int = MM at this ⊢
      simp [this, valI])
  have e2 : ((is.take t.toNat).map PyData.int).map (fun x => PyData.int (f (valI x))) = ((is.take t.toNat).map f).map .int := by
    rw [List.map_map, List.map_map]
    rfl
  rw [e2] at ec
  have t3 : ∀ (x : List PyData) q, tupOf (.p (.list x)) q = .ok (.p (.tuple x)) q := fun _ _ => rfl
  refine ⟨sortI ((is.take t.toNat).map f), s1, fnM_ret p1.cs (hp.ll p1) ?_, p1, up_nodup ndc, ?_, fun v hv => ?_⟩
  · rw [hs]
    unfold tupI at *
    generalize (sortI ((is.take t.toNat).map f)).map PyData.int = T at es ⊢
    generalize ((is.take t.toNat).map f).map PyData.int = C at es ec
    generalize M.map PyData.int = MM at em ec
    generalize sw.map PyData.int = SW at em ec ⊢
    simp only [b_law_stand_asked]
    simp [em, ec, es, t3]
  · rw [(sortI_perm _).length_eq, cs, List.length_take, pm.length_eq]
    omega
  · have m1 := (sortI_perm _).mem_iff.mp hv
    rw [cs] at m1
    exact pm.mem_iff.mp (List.mem_of_mem_take m1)
end
end MV

set_option Elab.async false
set_option linter.all false
set_option maxRecDepth 100000
set_option maxHeartbeats 4000000
namespace MV
open PySem
local instance : Tbs := ⟨[]⟩
theorem cut_tail {α : Type} (l : List α) {d : Int} (hd : 0 ≤ d) : cutG l (some (max 0 ((l.length : Int) - d))) none = l.drop (l.length - d.toNat) := by
  unfold cutG HT.sIx
  have e1 : ¬ (max 0 ((l.length : Int) - d)) < 0 := by omega
  simp only [e1, if_false]
  rw [show min (max 0 ((l.length : Int) - d)).toNat l.length = l.length - d.toNat by omega]
  refine List.take_of_length_le ?_
  rw [List.length_drop]
  omega
theorem last_snoc {α : Type} (l : List α) (c : α) (D : Nat) : ((l.drop (l.length - D)) ++ [c]).drop ((l.drop (l.length - D) ++ [c]).length - D) = (l ++ [c]).drop ((l ++ [c]).length - D) := by
  have e : l.drop (l.length - D) ++ [c] = (l ++ [c]).drop (l.length - D) := by
    rw [List.drop_append_of_le_length (by omega)]
  rw [e, List.drop_drop]
  congr 1
  rw [List.length_drop, List.length_append, List.length_singleton]
  omega
section
variable {rs : Sto} {n a s w t d : Int} {st : Sto}
theorem m_behind_eq (hc : CS st) (z : Sz n a s w t d) {css : List (List Int)} {c : List Int} (hl : css.length ≤ 100000) :
    m_law_stand_behind [.p (szD n a s w t d), .p (.tuple (css.map tupI)), .p (tupI c)] st = .ok (.p (.tuple (((css ++ [c]).drop ((css ++ [c]).length - d.toNat)).map tupI))) st := by
  have lz : lineN = 1000000 := rfl
  have l1 : 1 ≤ lineN := by decide
  have ad := addT' (x := css.map tupI) (y := [tupI c]) st (by simp; omega)
  rw [show css.map tupI ++ [tupI c] = (css ++ [c]).map tupI by rw [List.map_append]; rfl] at ad
  have sl : slD false (.p (.tuple ((css ++ [c]).map tupI))) (some (max 0 ((((css ++ [c]).map tupI).length : Int) - d))) none st = .ok (.p (.tuple (((css ++ [c]).drop ((css ++ [c]).length - d.toNat)).map tupI))) st := by
    show R.ok (D.p (.tuple (cutG ((css ++ [c]).map tupI) _ none))) st = _
    rw [cut_tail ((css ++ [c]).map tupI) z.d1, ← List.map_drop, List.length_map]
  have mx : ∀ i : Int, max2 (.p (.int 0)) (.p (.int i)) st = .ok (.p (.int (max 0 i))) st := fun _ => rfl
  have hs : startE 4 [D.p (szD n a s w t d), .p (.tuple (css.map tupI)), .p (tupI c)] = [some (.p (szD n a s w t d)), some (.p (.tuple (css.map tupI))), some (.p (tupI c)), none] := rfl
  refine fnM_ret hc rfl ?_
  rw [hs]
  generalize ((css ++ [c]).drop ((css ++ [c]).length - d.toNat)).map tupI = Q at sl ⊢
  generalize (css ++ [c]).map tupI = B at ad sl
  generalize css.map tupI = A at ad ⊢
  generalize tupI c = C at ad ⊢
  simp [b_law_stand_behind, mkTup, l1, ad, fSl, fNo, fSo, mx, sz_at5, sl]
def scBody : SF := (cSeq (cAsg (gN 7) (fFn 4 m_law_stand_asked (fCons (fV 0) (fCons (fV 1) (fCons (fV 2) (fCons (fV 5) fNil))))))
  (cPar [4, 5] (fCons (fB addD (fV 4) (fTup (fCons (fV 7) fNil))) (fCons (fFn 3 m_law_stand_behind (fCons (fV 1) (fCons (fV 5) (fCons (fV 7) fNil)))) fNil))))
theorem script_g (hp : PS rs st) (z : Sz n a s w t d) {sw : List Int} (hs : Swn n t d sw) {many : Int} (k0 : 0 ≤ many) (k1 : many ≤ 10000) :
    ∃ (css : List (List Int)) (st' : Sto), m_law_stand_script [.r 1, .p (szD n a s w t d), .p (.tuple (sw.map .int)), .p (.int many)] st = .ok (.p (.tuple (css.map tupI))) st' ∧ PS rs st' ∧ Scr n t d sw css ∧ (css.length : Int) = many := by
  have lz : lineN = 1000000 := rfl
  have l1 : 1 ≤ lineN := by decide
  have l2 : 2 ≤ lineN := by decide
  have l0 : 0 ≤ lineN := by decide
  have rg := rng1_i (j := many) st (by omega)
  obtain ⟨env', s2, el, css, hp2, hs2, hk, l6, l7, he⟩ := loop_rng (j := 6) (f := scBody) (fun i env q => ∃ css, PS rs q ∧ Scr n t d sw css ∧ (css.length : Int) = i ∧ ∃ l6 l7, env = [some (.r 1), some (.p (szD n a s w t d)), some (.p (.tuple (sw.map .int))), oi many, some (.p (.tuple (css.map tupI))), some (.p (.tuple ((css.drop (css.length - d.toNat)).map tupI))), l6, l7]) many.toNat 0 (fun i env q lo hi ⟨css, hq, sc, hk, l6, l7, he⟩ => by
    subst he
    have hd1 := z.d1
    have hd2 := z.d2
    have lL : (css.drop (css.length - d.toNat)).length ≤ d.toNat := by rw [List.length_drop]; omega
    have me := may_enough z hs (l := css.drop (css.length - d.toNat)) (fun c hc => sc.len c (List.mem_of_mem_drop hc)) (by omega)
    obtain ⟨c, q2, ea, hq2, c1, c2, c3⟩ := asked_g hq z (by omega) me
    have eb := m_behind_eq hq2.cs z (css := css.drop (css.length - d.toNat)) (c := c) (by omega)
    rw [last_snoc] at eb
    have ad := addT' (x := css.map tupI) (y := [tupI c]) q2 (by simp; omega)
    rw [show css.map tupI ++ [tupI c] = (css ++ [c]).map tupI by rw [List.map_append]; rfl] at ad
    refine ⟨[some (.r 1), some (.p (szD n a s w t d)), some (.p (.tuple (sw.map .int))), oi many, some (.p (.tuple ((css ++ [c]).map tupI))), some (.p (.tuple (((css ++ [c]).drop ((css ++ [c]).length - d.toNat)).map tupI))), oi i, some (.p (tupI c))], q2, ?_, css ++ [c], hq2, sc.snoc c1 c2 (fun v hv => (may_mem (c3 v hv)).1) (fun v hv => (may_mem (c3 v hv)).2.1) (fun v hv => (may_mem (c3 v hv)).2.2), by rw [List.length_append, List.length_singleton]; omega, _, _, rfl⟩
    generalize ((css ++ [c]).drop ((css ++ [c]).length - d.toNat)).map tupI = Q at eb ⊢
    generalize (css.drop (css.length - d.toNat)).map tupI = L at ea eb ⊢
    generalize (css ++ [c]).map tupI = B at ad ⊢
    generalize css.map tupI = A at ad ⊢
    generalize tupI c = C at ea eb ad ⊢
    generalize sw.map PyData.int = SW at ea ⊢
    unfold oi
    simp [scBody, ea, eb, cPar, mkTup, l1, ad]) (env := [some (.r 1), some (.p (szD n a s w t d)), some (.p (.tuple (sw.map .int))), oi many, some (.p (.tuple [])), some (.p (.tuple [])), none, none]) (st := st) ⟨[], hp, .nil, rfl, none, none, by rw [List.drop_nil]; rfl⟩
  subst he
  refine ⟨css, s2, fnM_ret hp2.cs (hp.ll hp2) ?_, hp2, hs2, by omega⟩
  unfold scBody oi at el
  have hs : startE 8 [D.r 1, .p (szD n a s w t d), .p (.tuple (sw.map .int)), .p (.int many)] = [some (.r 1), some (.p (szD n a s w t d)), some (.p (.tuple (sw.map .int))), some (.p (.int many)), none, none, none, none] := rfl
  rw [hs]
  generalize css.map tupI = A at el ⊢
  generalize (css.drop (css.length - d.toNat)).map tupI = L at el
  generalize sw.map PyData.int = SW at el ⊢
  simp [b_law_stand_script, mkTup, l0, l2, rg, el]
/-! ## asking: check_last, may_ask, made_script, is_script -/
theorem chk_cls {sw : List Int} {most : Int} {x : PyData} {c : Str} {i : Int} (h : chkX n t d sw most x = some (c, i)) : c = "BadScript" ∨ c = "Sworn" ∨ c = "Gap" := by
  unfold chkX at h
  split at h
  · split at h
    · cases h; exact .inl rfl
    · split at h
      · cases h; exact .inl rfl
      · split at h
        · cases h; exact .inr (.inl rfl)
        · split at h
          · cases h; exact .inr (.inr rfl)
          · cases h
  · cases h; exact .inl rfl
theorem rl7 : Str.ofString "BadScript" ∈ refL := by decide
theorem rl8 : Str.ofString "Sworn" ∈ refL := by decide
theorem rl9 : Str.ofString "Gap" ∈ refL := by decide
def Fit (x : PyData) : Prop := plainP x = true ∧ ∀ xs, x = .tuple xs → (∀ y ∈ xs, topPl y = true) ∧ xs.length ≤ 10000
theorem m_check_la (hc : CS st) (z : Sz n a s w t d) {sw : List Int} {x : PyData} (hx : Fit x) : m_check_last [.p (szD n a s w t d), .p (.tuple (sw.map .int)), .p x] st = if (chkX n t d sw d x).isNone then .ok (.p .none) st else .exc "BadLast" (.p (.int 0)) st := by
  have e := m_check_sc hc z (sw := sw) (most := d) hx.1 hx.2
  have hs : startE 3 [D.p (szD n a s w t d), .p (.tuple (sw.map .int)), .p x] = [some (.p (szD n a s w t d)), some (.p (.tuple (sw.map .int))), some (.p x)] := rfl
  generalize hw : sw.map PyData.int = SW at e hs ⊢
  cases hq : chkX n t d sw d x with
  | none =>
    rw [hq] at e
    simp only [orX] at e
    exact fnM_nx hc rfl (env := [some (.p (szD n a s w t d)), some (.p (.tuple SW)), some (.p x)]) (by rw [hs]; simp [b_check_last, sz_at5, e])
  | some q =>
    obtain ⟨c, i⟩ := q
    rw [hq] at e
    simp only [orX] at e
    have hr : c ∈ refL := by rcases chk_cls hq with rfl | rfl | rfl <;> first | exact rl7 | exact rl8 | exact rl9
    exact fnM_exc hc rfl (env := [some (.p (szD n a s w t d)), some (.p (.tuple SW)), some (.p x)]) (by rw [hs]; simp [b_check_last, sz_at5, e, hr])
theorem Swn.fine {sw : List Int} (h : Swn n t d sw) : swX n t d (.tuple (sw.map .int)) = none := by
  have e := scan_of (hi := n - 1) sw 0 0 (fun v hv => by have := h.mem v hv; omega) h.up
  have := h.few
  simp only [swX, e]
  rw [if_neg (by rw [List.length_map]; omega)]
theorem Swn.made {sw : List Int} (h : Swn n t d sw) (hc : CS st) (z : Sz n a s w t d) : m_made_sworn [.p (szD n a s w t d), .p (.tuple (sw.map .int))] st = .ok (.p (.tuple (sw.map .int))) st := by
  have h1 : topPl (.tuple (sw.map PyData.int)) = true := by
    have : ∀ l : List Int, allPl (l.map .int) = true := fun l => by
      induction l with
      | nil => rfl
      | cons v r ih => simpa [allPl, plainP] using ih
    simpa [topPl, plainP] using this sw
  have h2 : sw.length ≤ 1000 := by
    have := h.few
    have := z.n2
    have := z.t1
    have := z.d1
    have : 1 * 1 ≤ t * (d + 1) := Int.mul_le_mul (by omega) (by omega) (by omega) (by omega)
    omega
  have e := m_made_sw hc z h1 (fun ds q => by cases q; rw [List.length_map]; exact h2)
  rw [h.fine] at e
  exact e
theorem m_may_ask_eq (hc : CS st) (z : Sz n a s w t d) {sw : List Int} (hs : Swn n t d sw) {css : List (List Int)} (h : Scr n t d sw css) (hl : (css.length : Int) ≤ d) :
    m_may_ask [.p (szD n a s w t d), .p (.tuple (sw.map .int)), .p (.tuple (css.map tupI))] st = .ok (.p (.tuple ((mayI n sw css.flatten).map .int))) st := by
  have hd := z.d2
  have ht := z.t2
  have ht1 := z.t1
  have fl := flat_len h.len
  have pB : (css.length : Int) * t ≤ 8 * 8 := Int.mul_le_mul (by omega) (by omega) (by omega) (by omega)
  have e1 := hs.made hc z
  have e2 := m_check_la hc z (sw := sw) (x := .tuple (css.map tupI)) ⟨rfl, fun xs q => by
    cases q
    refine ⟨fun y hy => ?_, by rw [List.length_map]; omega⟩
    obtain ⟨c, _, rfl⟩ := List.mem_map.mp hy
    have : ∀ l : List Int, allPl (l.map .int) = true := fun l => by
      induction l with
      | nil => rfl
      | cons v r ih => simpa [allPl, plainP] using ih
    simpa [topPl, plainP, tupI] using this c⟩
  rw [h.fine hl] at e2
  have e3 := m_askable_eq hc z (sw := sw) (css := css) (by omega)
  have t3 : ∀ (x : List PyData) q, tupOf (.p (.list x)) q = .ok (.p (.tuple x)) q := fun _ _ => rfl
  have hss : startE 3 [D.p (szD n a s w t d), .p (.tuple (sw.map .int)), .p (.tuple (css.map tupI))] = [some (.p (szD n a s w t d)), some (.p (.tuple (sw.map .int))), some (.p (.tuple (css.map tupI)))] := rfl
  refine fnM_ret hc rfl ?_
  rw [hss]
  generalize (mayI n sw css.flatten).map PyData.int = M at e3 ⊢
  generalize css.map tupI = C at e2 e3 ⊢
  generalize sw.map PyData.int = SW at e1 e2 e3 ⊢
  simp [b_may_ask, e1, e2, e3, t3]
theorem m_may_ask_no (hc : CS st) (z : Sz n a s w t d) {sw : List Int} (hs : Swn n t d sw) {x : PyData} (hx : Fit x) (h : (chkX n t d sw d x).isNone = false) :
    m_may_ask [.p (szD n a s w t d), .p (.tuple (sw.map .int)), .p x] st = .exc "BadLast" (.p (.int 0)) st := by
  have e1 := hs.made hc z
  have e2 := m_check_la hc z (sw := sw) hx
  rw [h] at e2
  have hss : startE 3 [D.p (szD n a s w t d), .p (.tuple (sw.map .int)), .p x] = [some (.p (szD n a s w t d)), some (.p (.tuple (sw.map .int))), some (.p x)] := rfl
  generalize sw.map PyData.int = SW at e1 e2 hss ⊢
  exact fnM_exc hc rfl (env := [some (.p (szD n a s w t d)), some (.p (.tuple SW)), some (.p x)]) (by rw [hss]; simp [b_may_ask, e1, e2])
end
end MV

set_option Elab.async false
set_option linter.all false
set_option maxRecDepth 100000
set_option maxHeartbeats 4000000
namespace MV
open PySem
def hl_law_heard : List (Str × Str) := ("BadScript", "BadScript") :: ("BadSizes", "BadSizes") :: ("BadSworn", "BadSworn") :: ("Gap", "Gap") :: ("Sworn", "Sworn") :: []
def b_law_is_form : SF :=
  (cSeq (cIf (fOr (fNot (fT (fU (isiD "tuple") (fV 1)))) (fBT (eqD true) (fC (arg1 lenD) (fCons (fV 1) fNil)) (fB ixD (fV 0) (fK (.int 4))))) (cRet (fK (.bool false))) cNx)
  (cSeq (cFor (fR enumS (fCons (fV 1) fNil)) (gT [2, 3]) (cSeq (cIf (fOr (fNot (fT (fU (isiD "int") (fV 3)))) (fOr (fT (fU (isiD "bool") (fV 3))) (fNot (fChT leD ltD (fK (.int 0)) (fV 3) (fB ixD (fV 0) (fK (.int 0))))))) (cRet (fK (.bool false))) cNx)
  (cIf (fAnd (fBT gtD (fV 2) (fK (.int 0))) (fBT leD (fV 3) (fB ixD (fV 1) (fB subD (fV 2) (fK (.int 1)))))) (cRet (fK (.bool false))) cNx)))
  (cRet (fK (.bool true)))))
def m_law_is_form : List D → Sto → R D := fnM false 4 b_law_is_form
def b_law_wrong : SF :=
  (cSeq (cIf (fOr (fNot (fT (fU (isiD "tuple") (fV 2)))) (fBT gtD (fC (arg1 lenD) (fCons (fV 2) fNil)) (fK (.int 2000)))) (cRet (fTup (fCons (fK (.str "BadScript")) (fCons (fU negD (fK (.int 1))) (fCons (fK (.bool true)) fNil))))) cNx)
  (cSeq (cAsg (gN 5) (fLc false [3, 4] (fR enumS (fCons (fV 2) fNil)) (gT [3, 4]) (fNot (fT (fFn 2 m_law_is_form (fCons (fV 0) (fCons (fV 4) fNil))))) (fV 3)))
  (cSeq (cIf (fBT (eqD true) (fV 5) (fLst fNil)) (cRet (fTup (fCons (fK (.str "BadScript")) (fCons (fB ixD (fV 5) (fK (.int 0))) (fCons (fK (.bool true)) fNil))))) cNx)
  (cSeq (cAsg (gN 5) (fLc false [3, 4] (fR enumS (fCons (fV 2) fNil)) (gT [3, 4]) (fBT (eqD true) (fLc false [6] (fW (fV 4)) (gN 6) (fBT (inS false) (fV 6) (fV 1)) (fV 6)) (fLst fNil)) (fV 3)))
  (cSeq (cIf (fBT (eqD true) (fV 5) (fLst fNil)) (cRet (fTup (fCons (fK (.str "Sworn")) (fCons (fB ixD (fV 5) (fK (.int 0))) (fCons (fK (.bool true)) fNil))))) cNx)
  (cSeq (cAsg (gN 7) fDct)
  (cSeq (cFor (fR enumS (fCons (fV 2) fNil)) (gT [3, 4]) (cSeq (cIf (fBT (eqD true) (fLc false [6] (fW (fV 4)) (gN 6) (fBT leD (fB subD (fV 3) (fGet2 (fV 7) (fV 6) (fU negD (fK (.int 100))))) (fB ixD (fV 0) (fK (.int 5)))) (fV 6)) (fLst fNil)) (cRet (fTup (fCons (fK (.str "Gap")) (fCons (fV 3) (fCons (fK (.bool true)) fNil))))) cNx)
  (cFor (fW (fV 4)) (gN 6) (cPutD (fV 7) (fV 6) (fV 3)))))
  (cRet (fTup fNil)))))))))
def m_law_wrong : List D → Sto → R D := fnM false 8 b_law_wrong
def b_law_right : SF :=
  (cSeq (cAsg (gN 3) (fFn 3 m_law_wrong (fCons (fV 0) (fCons (fV 1) (fCons (fV 2) fNil)))))
  (cSeq (cAsg (gN 4) (fIf (fBT (eqD false) (fV 3) (fTup fNil)) (fTup (fCons (fK (.str "told")) (fCons (fV 2) fNil))) (fV 3)))
  (cSeq (cIf (fBT (eqD true) (fC (arg1 reprD) (fCons (fHearF true "told" hl_law_heard "another" 0 (fFn 3 m_made_script (fCons (fV 0) (fCons (fV 1) (fCons (fV 2) fNil))))) fNil)) (fC (arg1 reprD) (fCons (fV 4) fNil))) (cRet (fK (.bool false))) cNx)
  (cRet (fB (eqD false) (fC (arg1 reprD) (fCons (fFn 3 m_is_script (fCons (fV 0) (fCons (fV 1) (fCons (fV 2) fNil)))) fNil)) (fC (arg1 reprD) (fCons (fB (eqD false) (fV 3) (fTup fNil)) fNil)))))))
def m_law_right : List D → Sto → R D := fnM false 5 b_law_right
def b_law_bent_commit : SF :=
  (cSeq (cPar [3, 4] (fCons (fFn 2 m_law_draw (fCons (fV 0) (fCons (fK (.int 6)) fNil))) (fCons (fFn 2 m_law_draw (fCons (fV 0) (fCons (fC (arg1 lenD) (fCons (fV 2) fNil)) fNil))) fNil)))
  (cSeq (cIf (fBT ltD (fV 3) (fK (.int 2))) (cRet (fC (arg1 tupOf) (fCons (fC (arg1 sortS) (fCons (fSl false (fFn 2 m_law_turned (fCons (fV 0) (fCons (fB ixD (fV 1) (fK (.int 0))) fNil))) fNo (fSo (fB ixD (fV 1) (fK (.int 4))))) fNil)) fNil))) cNx)
  (cSeq (cIf (fBT (eqD false) (fV 3) (fK (.int 2))) (cSeq (cAsg (gN 5) (fLst (fCons (fU negD (fK (.int 1))) (fCons (fB ixD (fV 1) (fK (.int 0))) (fCons (fK .none) (fCons (fK (.bool true)) (fCons (fK (.bool false)) (fCons (fK (.str "0")) (fCons (fTup (fCons (fK (.int 0)) fNil)) (fCons (fB powD (fK (.int 10)) (fK (.int 20))) (fCons (fK (.int 0)) fNil)))))))))))
  (cRet (fB addD (fB addD (fSl false (fV 2) fNo (fSo (fV 4))) (fTup (fCons (fFn 2 m_law_pick (fCons (fV 0) (fCons (fV 5) fNil))) fNil))) (fSl false (fV 2) (fSo (fB addD (fV 4) (fK (.int 1)))) fNo)))) cNx)
  (cSeq (cIf (fBT (eqD false) (fV 3) (fK (.int 3))) (cRet (fFn 2 m_law_pick (fCons (fV 0) (fCons (fLst (fCons (fK .none) (fCons (fK (.int 0)) (fCons (fC (arg1 (listOf false)) (fCons (fV 2) fNil)) (fCons (fU (revD false) (fV 2)) (fCons (fB addD (fV 2) (fSl false (fV 2) fNo (fSo (fK (.int 1))))) (fCons (fSl false (fV 2) (fSo (fK (.int 1))) fNo) (fCons (fK (.str "0")) (fCons (fTup fNil) fNil))))))))) fNil)))) cNx)
  (cRet (fV 2))))))
def m_law_bent_commit : List D → Sto → R D := fnM false 6 b_law_bent_commit
def b_law_bent : SF :=
  (cSeq (cPar [3, 4, 5] (fCons (fFn 2 m_law_draw (fCons (fV 0) (fCons (fK (.int 8)) fNil))) (fCons (fFn 2 m_law_draw (fCons (fV 0) (fCons (fB addD (fC (arg1 lenD) (fCons (fV 2) fNil)) (fK (.int 1))) fNil))) (fCons (fFn 2 m_law_draw (fCons (fV 0) (fCons (fB addD (fC (arg1 lenD) (fCons (fV 2) fNil)) (fK (.int 1))) fNil))) fNil))))
  (cSeq (cIf (fBT (eqD false) (fV 3) (fK (.int 0))) (cRet (fFn 2 m_law_pick (fCons (fV 0) (fCons (fLst (fCons (fK .none) (fCons (fK (.int 0)) (fCons (fK (.str "script")) (fCons (fC (arg1 (listOf false)) (fCons (fV 2) fNil)) (fCons (fK (.bool true)) (fCons (fTup (fCons (fV 2) fNil)) fNil))))))) fNil)))) cNx)
  (cSeq (cIf (fBT (eqD false) (fV 3) (fK (.int 1))) (cRet (fB addD (fB addD (fSl false (fV 2) fNo (fSo (fV 4))) (fSl false (fV 2) (fSo (fV 5)) (fSo (fB addD (fV 5) (fK (.int 1)))))) (fSl false (fV 2) (fSo (fV 4)) fNo))) cNx)
  (cSeq (cIf (fBT (eqD false) (fV 3) (fK (.int 2))) (cRet (fB addD (fSl false (fV 2) fNo (fSo (fV 4))) (fSl false (fV 2) (fSo (fB addD (fV 4) (fK (.int 1)))) fNo))) cNx)
  (cSeq (cAsg (gN 6) (fC (arg1 (listOf true)) (fCons (fV 2) fNil)))
  (cSeq (cFor (fW (fSl false (fLst (fCons (fV 4) (fCons (fV 5) fNil))) fNo (fSo (fB addD (fK (.int 1)) (fC (arg1 intOf) (fCons (fB gtD (fV 3) (fK (.int 5))) fNil)))))) (gN 7) (cIf (fBT ltD (fV 7) (fC (arg1 lenD) (fCons (fV 2) fNil))) (cPut (fV 6) (fV 7) (fFn 3 m_law_bent_commit (fCons (fV 0) (fCons (fV 1) (fCons (fB ixD (fV 2) (fV 7)) fNil))))) cNx))
  (cRet (fC (arg1 tupOf) (fCons (fV 6) fNil)))))))))
def m_law_bent : List D → Sto → R D := fnM false 8 b_law_bent
def b_law_long_right : SF :=
  (cSeq (cAsg (gN 0) (fB mulT (fTup (fCons (fTup (fCons (fK (.int 0)) fNil)) (fCons (fTup (fCons (fK (.int 1)) fNil)) fNil))) (fK (.int 1000))))
  (cSeq (cIf (fOr (fBT (eqD true) (fFn 3 m_made_script (fCons (fTup (fCons (fK (.int 2)) (fCons (fK (.int 1)) (fCons (fK (.int 1)) (fCons (fK (.int 2)) (fCons (fK (.int 1)) (fCons (fK (.int 1)) fNil))))))) (fCons (fTup fNil) (fCons (fV 0) fNil)))) (fV 0)) (fBT (isD true) (fFn 3 m_is_script (fCons (fTup (fCons (fK (.int 2)) (fCons (fK (.int 1)) (fCons (fK (.int 1)) (fCons (fK (.int 2)) (fCons (fK (.int 1)) (fCons (fK (.int 1)) fNil))))))) (fCons (fTup fNil) (fCons (fV 0) fNil)))) (fK (.bool true)))) (cRet (fK (.bool false))) cNx)
  (cRet (fB (eqD false) (fC (arg1 reprD) (fCons (fHearF true "told" hl_law_heard "another" 0 (fFn 3 m_made_script (fCons (fTup (fCons (fK (.int 2)) (fCons (fK (.int 1)) (fCons (fK (.int 1)) (fCons (fK (.int 2)) (fCons (fK (.int 1)) (fCons (fK (.int 1)) fNil))))))) (fCons (fTup fNil) (fCons (fB addD (fV 0) (fTup (fCons (fTup (fCons (fK (.int 0)) fNil)) fNil))) fNil))))) fNil)) (fC (arg1 reprD) (fCons (fTup (fCons (fK (.str "BadScript")) (fCons (fU negD (fK (.int 1))) (fCons (fK (.bool true)) fNil)))) fNil))))))
def m_law_long_right : List D → Sto → R D := fnM false 1 b_law_long_right
def b_law : SF :=
  (cSeq (cAsg (gN 1) (fFn 1 m_law_pool (fCons (fV 0) fNil)))
  (cSeq (cIf (fBT (eqD true) (fC (arg1 reprD) (fCons (fHearF true "told" hl_law_heard "another" 0 (fFn 3 m_made_script (fCons (fTup (fCons (fK (.int 2)) (fCons (fK (.int 1)) (fCons (fK (.int 1)) (fCons (fK (.int 2)) (fCons (fK (.int 1)) (fCons (fK (.int 1)) fNil))))))) (fCons (fTup fNil) (fCons (fTup (fCons (fTup (fCons (fK (.int 0)) fNil)) (fCons (fTup (fCons (fK (.int 0)) fNil)) fNil))) fNil))))) fNil)) (fC (arg1 reprD) (fCons (fTup (fCons (fK (.str "Gap")) (fCons (fK (.int 1)) (fCons (fK (.bool true)) fNil)))) fNil))) (cRet (fK (.bool false))) cNx)
  (cSeq (cAsg (gN 6) (fIf (fBT (eqD false) (fFn 2 m_law_draw (fCons (fV 1) (fCons (fK (.int 6)) fNil))) (fK (.int 0))) (fFn 2 m_law_stand_rims (fCons (fV 1) (fCons (fK (.int 5)) fNil))) (fFn 5 m_law_stand_sizes (fCons (fV 1) (fCons (fK (.int 9)) (fCons (fK (.int 2)) (fCons (fK (.int 5)) (fCons (fK (.int 60)) fNil))))))))
  (cSeq (cIf (fBT (eqD false) (fFn 2 m_law_draw (fCons (fV 1) (fCons (fK (.int 24)) fNil))) (fK (.int 0))) (cAsg (gN 6) (fFn 1 m_law_stand_great (fCons (fV 1) fNil))) cNx)
  (cSeq (cIf (fBT (eqD false) (fFn 2 m_law_draw (fCons (fV 1) (fCons (fK (.int 6)) fNil))) (fK (.int 0))) (cAsg (gN 6) (fTup (fCons (fB addD (fK (.int 9)) (fFn 2 m_law_draw (fCons (fV 1) (fCons (fK (.int 3)) fNil)))) (fCons (fK (.int 1)) (fCons (fK (.int 1)) (fCons (fK (.int 3)) (fCons (fK (.int 1)) (fCons (fK (.int 8)) fNil)))))))) cNx)
  (cSeq (cAsg (gN 2) (fFn 2 m_law_stand_sworn (fCons (fV 1) (fCons (fV 6) fNil))))
  (cSeq (cAsg (gN 3) (fFn 4 m_law_stand_script (fCons (fV 1) (fCons (fV 6) (fCons (fV 2) (fCons (fFn 2 m_law_draw (fCons (fV 1) (fCons (fK (.int 21)) fNil))) fNil))))))
  (cSeq (cIf (fOr (fNot (fT (fFn 3 m_law_right (fCons (fV 6) (fCons (fV 2) (fCons (fV 3) fNil)))))) (fNot (fT (fFn 3 m_law_right (fCons (fV 6) (fCons (fV 2) (fCons (fTup fNil) fNil))))))) (cRet (fK (.bool false))) cNx)
  (cSeq (cFor (fR rng1 (fCons (fK (.int 5)) fNil)) (gN 4) (cIf (fNot (fT (fFn 3 m_law_right (fCons (fV 6) (fCons (fV 2) (fCons (fFn 3 m_law_bent (fCons (fV 1) (fCons (fV 6) (fCons (fV 3) fNil)))) fNil)))))) (cRet (fK (.bool false))) cNx))
  (cSeq (cAsg (gN 5) (fFn 2 m_law_pick (fCons (fV 1) (fCons (fLst (fCons (fK .none) (fCons (fSl false (fV 6) fNo (fSo (fK (.int 5)))) (fCons (fB addD (fTup (fCons (fK (.int 41)) fNil)) (fSl false (fV 6) (fSo (fK (.int 1))) fNo)) fNil)))) fNil))))
  (cSeq (cIf (fOr (fBT (eqD true) (fB ixD (fHearF true "told" hl_law_heard "another" 0 (fFn 3 m_made_script (fCons (fV 5) (fCons (fK .none) (fCons (fK .none) fNil))))) (fK (.int 0))) (fK (.str "BadSizes"))) (fBT (isD true) (fFn 3 m_is_script (fCons (fV 5) (fCons (fTup fNil) (fCons (fTup fNil) fNil)))) (fK (.bool false)))) (cRet (fK (.bool false))) cNx)
  (cSeq (cIf (fBT (eqD true) (fC (arg1 reprD) (fCons (fHearF true "told" hl_law_heard "another" 0 (fFn 3 m_made_script (fCons (fV 6) (fCons (fK .none) (fCons (fK .none) fNil))))) fNil)) (fC (arg1 reprD) (fCons (fTup (fCons (fK (.str "BadSworn")) (fCons (fU negD (fK (.int 1))) (fCons (fK (.bool true)) fNil)))) fNil))) (cRet (fK (.bool false))) cNx)
  (cSeq (cIf (fBT (isD true) (fFn 3 m_is_script (fCons (fV 6) (fCons (fK .none) (fCons (fTup fNil) fNil)))) (fK (.bool false))) (cRet (fK (.bool false))) cNx)
  (cRet (fOrV (fB gtD (fFn 2 m_law_draw (fCons (fV 1) (fCons (fK (.int 16)) fNil))) (fK (.int 0))) (fFn 0 m_law_long_right fNil))))))))))))))))
def m_law : List D → Sto → R D := fnM false 7 b_law
end MV

set_option Elab.async false
set_option linter.all false
set_option maxRecDepth 100000
set_option maxHeartbeats 4000000
namespace MV
open PySem
local instance : Tbs := ⟨[]⟩
def enN (k : Nat) (l : List PyData) : List PyData := (l.zipIdx k).map fun p => .tuple [.int (p.2 : Nat), p.1]
theorem enN_cons (k : Nat) (x : PyData) (l : List PyData) : enN k (x :: l) = .tuple [.int (k : Nat), x] :: enN (k + 1) l := by simp [enN, List.zipIdx_cons]
theorem enN_S (ds : List PyData) (st : Sto) : enumS [.p (.tuple ds)] st = .ok ((enN 0 ds).map .p) st := by simp [enumS, enumL, enN]
theorem enN_len (k : Nat) (l : List PyData) : (enN k l).length = l.length := by simp [enN]
section
variable {n a s w t d : Int} {st : Sto}
def ifBody : SF := (cSeq (cIf (fOr (fNot (fT (fU (isiD "int") (fV 3)))) (fOr (fT (fU (isiD "bool") (fV 3))) (fNot (fChT leD ltD (fK (.int 0)) (fV 3) (fB ixD (fV 0) (fK (.int 0))))))) (cRet (fK (.bool false))) cNx)
  (cIf (fAnd (fBT gtD (fV 2) (fK (.int 0))) (fBT leD (fV 3) (fB ixD (fV 1) (fB subD (fV 2) (fK (.int 1)))))) (cRet (fK (.bool false))) cNx))
/-- what stands ahead: nothing, or ending in the last number -/
def Upto (pre : List PyData) (last : Int) : Prop := pre = [] ∧ last = -1 ∨ 0 ≤ last ∧ ∃ p, pre = p ++ [.int last]
theorem if_step (hc : CS st) {ds pre suf : List PyData} {x : PyData} {last : Int} (hp : plainP x = true) (hd : pre ++ x :: suf = ds) (ha : Upto pre last) :
    ifBody [some (.p (szD n a s w t d)), some (.p (.tuple ds)), some (.p (.int (pre.length : Nat))), some (.p x)] st =
      if betw x (last + 1) (n - 1) then .nx [some (.p (szD n a s w t d)), some (.p (.tuple ds)), some (.p (.int (pre.length : Nat))), some (.p x)] st else .ret (.p (.bool false)) st := by
  cases x with
  | dict _ => cases hp
  | int v =>
    by_cases h0 : 0 ≤ v
    · by_cases h1 : v < n
      · have hv : v ≤ n - 1 := by omega
        rcases ha with ⟨rfl, rfl⟩ | ⟨h3, p, rfl⟩
        · simp [ifBody, sz_at0, kb_ii, kb_ib, h0, h1, betw, hv]
        · have ix : ixD (.p (.tuple ds)) (.p (.int (p.length : Nat))) st = .ok (.p (.int last)) st := by
            rw [← hd, List.append_assoc, List.singleton_append]
            exact ix_mid ..
          have hpos : 0 < (p.length : Int) + 1 := by omega
          by_cases h4 : v ≤ last
          · have : ¬ last + 1 ≤ v := by omega
            simp [ifBody, sz_at0, kb_ii, kb_ib, h0, h1, betw, hpos, ix, h4, this]
          · have : last + 1 ≤ v := by omega
            simp [ifBody, sz_at0, kb_ii, kb_ib, h0, h1, betw, hpos, ix, h4, this, hv]
      · have : ¬ v ≤ n - 1 := by omega
        simp [ifBody, sz_at0, kb_ii, kb_ib, h0, h1, betw, this]
    · have : ¬ last + 1 ≤ v := by rcases ha with ⟨_, rfl⟩ | ⟨_, _⟩ <;> omega
      simp [ifBody, sz_at0, kb_ii, kb_ib, h0, betw, this]
  | _ => simp [ifBody, sz_at0, kb_bi, kb_bb, kb_si, kb_li, kb_ti, kb_ni, betw]
theorem if_loop (hc : CS st) {ds : List PyData} : ∀ (suf pre : List PyData) (last : Int) (l l' : Option D), allPl suf = true → pre ++ suf = ds → Upto pre last →
    ((scanS (n - 1) (last + 1) 0 suf).isNone = true → ∃ l1 l2, loopS (gT [2, 3]) ifBody ((enN pre.length suf).map .p) [some (.p (szD n a s w t d)), some (.p (.tuple ds)), l, l'] st = .nx [some (.p (szD n a s w t d)), some (.p (.tuple ds)), l1, l2] st) ∧
    ((scanS (n - 1) (last + 1) 0 suf).isNone = false → loopS (gT [2, 3]) ifBody ((enN pre.length suf).map .p) [some (.p (szD n a s w t d)), some (.p (.tuple ds)), l, l'] st = .ret (.p (.bool false)) st) := by
  intro suf
  induction suf with
  | nil => exact fun pre last l l' _ _ _ => ⟨fun _ => ⟨l, l', rfl⟩, fun h => by cases h⟩
  | cons x suf ih =>
    intro pre last l l' hp hd ha
    simp only [allPl, Bool.and_eq_true] at hp
    have e := if_step (n := n) (a := a) (s := s) (w := w) (t := t) (d := d) (st := st) hc hp.1 hd ha
    rw [enN_cons, List.map_cons]
    unfold loopS
    have g : gT [2, 3] (.p (.tuple [.int (pre.length : Nat), x])) [some (.p (szD n a s w t d)), some (.p (.tuple ds)), l, l'] = some [some (.p (szD n a s w t d)), some (.p (.tuple ds)), some (.p (.int (pre.length : Nat))), some (.p x)] := rfl
    rw [g]
    simp only [e, scanS]
    cases hb : betw x (last + 1) (n - 1) with
    | false =>
      rw [if_neg Bool.false_ne_true, if_neg Bool.false_ne_true]
      exact ⟨fun z => (by cases z), fun _ => rfl⟩
    | true =>
      rw [if_pos rfl, if_pos rfl]
      obtain ⟨v, rfl, lo, _⟩ := betw_int hb
      have nn : 0 ≤ last + 1 := by rcases ha with ⟨_, rfl⟩ | ⟨_, _⟩ <;> omega
      have r := ih (pre ++ [.int v]) v (some (.p (.int (pre.length : Nat)))) (some (.p (.int v))) hp.2 (by simpa using hd) (.inr ⟨by omega, pre, rfl⟩)
      rw [List.length_append, List.length_singleton] at r
      rw [scan_none (n - 1) suf _ (0 + 1) 0]
      exact r
theorem m_lawform (hc : CS st) {x : PyData} (h : topPl x = true) : m_law_is_form [.p (szD n a s w t d), .p x] st = .ok (.p (.bool (formX n t x))) st := by
  simp only [topPl, Bool.and_eq_true] at h
  cases x with
  | tuple ds =>
    have lp := if_loop (n := n) (a := a) (s := s) (w := w) (t := t) (d := d) (st := st) hc (ds := ds) ds [] (-1) none none h.2 rfl (.inl ⟨rfl, rfl⟩)
    rw [show (-1 : Int) + 1 = 0 by rfl, List.length_nil] at lp
    unfold ifBody at lp
    have en := enN_S ds st
    by_cases c : (ds.length : Int) = t
    · cases hs : (scanS (n - 1) 0 0 ds).isNone with
      | true =>
        obtain ⟨v, l', e⟩ := lp.1 hs
        generalize (enN 0 ds) = E at en e
        exact fnM_ret hc rfl (by simp [b_law_is_form, startE, kb_tt, sz_at4, ne_int, c, en, e, formX, tupLen, riseX, hs])
      | false =>
        have e := lp.2 hs
        generalize (enN 0 ds) = E at en e
        exact fnM_ret hc rfl (by simp [b_law_is_form, startE, kb_tt, sz_at4, ne_int, c, en, e, formX, tupLen, riseX, hs])
    · exact fnM_ret hc rfl (by simp [b_law_is_form, startE, kb_tt, sz_at4, ne_int, c, formX, tupLen])
  | dict _ => cases h.1
  | _ => exact fnM_ret hc rfl (by simp [b_law_is_form, startE, kb_st, kb_lt, kb_nt, kb_bt, kb_it, formX, tupLen])
end
end MV

set_option Elab.async false
set_option linter.all false
set_option maxRecDepth 100000
set_option maxHeartbeats 4000000
namespace MV
open PySem
local instance : Tbs := ⟨[]⟩
def atP : PyData → PyData
  | .tuple [i, _] => i
  | _ => .none
def badP (bad : Nat → Bool) : PyData → Bool
  | .tuple [.int k, _] => bad k.toNat
  | _ => false
def numL (l : List Nat) : List PyData := l.map fun k => .int (k : Nat)
theorem enN_mem : ∀ {l : List PyData} {k : Nat} {x : PyData}, x ∈ enN k l → ∃ i, ∃ h : i < l.length, x = .tuple [.int ((k + i : Nat) : Int), l[i]]
  | [], _, _, h => by cases h
  | y :: l, k, x, h => by
    rw [enN_cons] at h
    rcases List.mem_cons.mp h with rfl | h
    · exact ⟨0, by simp, rfl⟩
    · obtain ⟨i, hi, rfl⟩ := enN_mem h
      exact ⟨i + 1, by simpa using hi, by rw [show k + 1 + i = k + (i + 1) by omega]; rfl⟩
theorem enN_filter (bad : Nat → Bool) : ∀ (l : List PyData) (k : Nat), ((enN k l).filter (badP bad)).map atP = numL ((List.range' k l.length).filter bad)
  | [], _ => rfl
  | y :: l, k => by
    rw [enN_cons, List.length_cons, List.range'_succ, List.filter_cons, List.filter_cons]
    have ih := enN_filter bad l (k + 1)
    have e : badP bad (.tuple [.int (k : Nat), y]) = bad k := by simp [badP]
    rw [e]
    cases hb : bad k with
    | true =>
      rw [if_pos rfl, if_pos rfl, List.map_cons, ih]
      rfl
    | false =>
      rw [if_neg Bool.false_ne_true, if_neg Bool.false_ne_true, ih]
section
variable {n a s w t d : Int} {st : Sto}
theorem comp_enum {ft : FT} {x0 x1 x5 x6 x7 y3 y4 : Option D} {xs : List PyData} (bad : Nat → Bool) (hc : CS st) (hl : xs.length ≤ 1000000)
    (h : ∀ i (hi : i < xs.length), ∀ q, CS q → ft [x0, x1, some (.p (.tuple xs)), some (.p (.int (i : Nat))), some (.p xs[i]), x5, x6, x7] q = .ok (bad i) q) :
    fLc false [3, 4] (fR enumS (fCons (fV 2) fNil)) (gT [3, 4]) ft (fV 3) [x0, x1, some (.p (.tuple xs)), y3, y4, x5, x6, x7] st = .ok (.p (.list (numL ((List.range' 0 xs.length).filter bad)))) st := by
  have en := enN_S xs st
  have e := comp_pure (t := gT [3, 4]) (ft := ft) (fe := fV 3) (vs := [3, 4]) (fi := fR enumS (fCons (fV 2) fNil)) (env := [x0, x1, some (.p (.tuple xs)), y3, y4, x5, x6, x7]) (st := st) (xs := enN 0 xs) (badP bad) atP
    (by
      generalize enN 0 xs = E at en ⊢
      simp [en]) hc (by rw [enN_len]; exact hl) (fun x hx => by
      obtain ⟨i, hi, rfl⟩ := enN_mem hx
      refine ⟨[x0, x1, some (.p (.tuple xs)), some (.p (.int ((0 + i : Nat) : Int))), some (.p xs[i]), x5, x6, x7], rfl, fun q hq => ⟨?_, fun _ => rfl⟩⟩
      rw [Nat.zero_add, h i hi q hq]
      simp [badP])
  rw [enN_filter] at e
  exact e
theorem num_nil (neg : Bool) (l : List Nat) (st : Sto) : eqD neg (.p (.list (numL l))) (.p (.list [])) st = .ok (.p (.bool (if neg then !l.isEmpty else l.isEmpty))) st := by
  have e : numL l = (l.map fun k : Nat => (k : Int)).map .int := by simp [numL]
  have h1 := shaped_ints (l.map fun k : Nat => (k : Int))
  rw [← e] at h1
  have h2 : SeqAt.shaped (.list []) = true := by decide
  have h3 : PyData.eqv (.list (numL l)) (.list []) = l.isEmpty := by
    cases l with
    | nil => simp [numL, PyData.eqv, PyData.eqvAll]
    | cons c r => simp [numL, PyData.eqv, PyData.eqvAll]
  generalize numL l = C at h1 h3 ⊢
  simp [eqD, eqG, dat, h1, h2, h3]
theorem num_first (k : Nat) (l : List Nat) (st : Sto) : ixD (.p (.list (numL (k :: l)))) (.p (.int 0)) st = .ok (.p (.int (k : Nat))) st := by
  have e : L2.atI ((numL (k :: l)).map D.p) ((0 : Nat) : Int) = some (.p (.int (k : Nat))) := L2.atI_nat rfl
  have e : L2.atI ((numL (k :: l)).map D.p) 0 = some (.p (.int (k : Nat))) := e
  generalize numL (k :: l) = C at e ⊢
  simp [ixD, itemsD, e]
theorem ints_nil (neg : Bool) (l : List Int) (st : Sto) : eqD neg (.p (.list (l.map .int))) (.p (.list [])) st = .ok (.p (.bool (if neg then !l.isEmpty else l.isEmpty))) st := by
  have h1 := shaped_ints l
  have h2 : SeqAt.shaped (.list []) = true := by decide
  have h3 : PyData.eqv (.list (l.map .int)) (.list []) = l.isEmpty := by
    cases l with
    | nil => simp [PyData.eqv, PyData.eqvAll]
    | cons c r => simp [PyData.eqv, PyData.eqvAll]
  generalize l.map PyData.int = C at h1 h3 ⊢
  simp [eqD, eqG, dat, h1, h2, h3]
theorem meets_filter (c others : List Int) : (c.filter others.contains).isEmpty = !meets c others := by
  unfold meets
  rw [← List.head?_filter]
  cases c.filter others.contains with
  | nil => rfl
  | cons x r => rfl
theorem first_of_filter {bad : Nat → Bool} {m : Nat} : (∀ i, (List.range' 0 m).find? bad = some i → ∃ r, (List.range' 0 m).filter bad = i :: r) ∧ ((List.range' 0 m).find? bad = none → (List.range' 0 m).filter bad = []) := by
  rw [← List.head?_filter]
  cases (List.range' 0 m).filter bad with
  | nil => exact ⟨fun i h => (by cases h), fun _ => rfl⟩
  | cons x r => exact ⟨fun i h => (by cases h; exact ⟨r, rfl⟩), fun h => (by cases h)⟩
end
end MV

set_option Elab.async false
set_option linter.all false
set_option maxRecDepth 100000
set_option maxHeartbeats 4000000
namespace MV
open PySem
local instance : Tbs := ⟨[]⟩
/-! ### dicts of data -/
theorem vd_pos {k1 k : L2.Key} {d1 : D} {kvs : List (L2.Key × D)} (e : k1 = k) : valD ((k1, d1) :: kvs) k = some d1 := by simp [valD, List.find?_cons, e]
theorem vd_neg {k1 k : L2.Key} {d1 : D} {kvs : List (L2.Key × D)} (e : ¬ k1 = k) : valD ((k1, d1) :: kvs) k = valD kvs k := by simp [valD, List.find?_cons, e]
theorem valD_map (k j : L2.Key) (d : D) : ∀ kvs : List (L2.Key × D), valD (kvs.map fun kv => if kv.1 = k then (kv.1, d) else kv) j = if j = k then (valD kvs j).map (fun _ => d) else valD kvs j
  | [] => by simp [valD]
  | (k1, d1) :: kvs => by
    have ih := valD_map k j d kvs
    rw [List.map_cons]
    by_cases c2 : k1 = j
    · rw [vd_pos c2]
      by_cases c1 : k1 = k
      · have c3 : j = k := c2.symm.trans c1
        simp only [c1, if_true, c3]
        rw [vd_pos rfl]
        rfl
      · have c3 : ¬ j = k := fun e => c1 (c2.trans e)
        simp only [c1, if_false, c3]
        rw [vd_pos c2]
    · rw [vd_neg c2]
      by_cases c1 : k1 = k
      · simp only [c1, if_true]
        rw [vd_neg (fun e => c2 (c1.trans e)), ih]
      · simp only [c1, if_false]
        rw [vd_neg c2, ih]
theorem valD_any (k : L2.Key) : ∀ kvs : List (L2.Key × D), (kvs.any fun kv => decide (kv.1 = k)) = (valD kvs k).isSome
  | [] => rfl
  | (k1, d1) :: kvs => by
    have ih := valD_any k kvs
    rw [List.any_cons]
    by_cases c : k1 = k
    · rw [vd_pos c]
      simp [c]
    · rw [vd_neg c, ← ih]
      simp [c]
theorem valD_snoc (k j : L2.Key) (d : D) : ∀ kvs : List (L2.Key × D), valD kvs k = none → valD (kvs ++ [(k, d)]) j = if j = k then some d else valD kvs j
  | [], _ => by
    rw [List.nil_append]
    by_cases c : j = k
    · rw [vd_pos c.symm, if_pos c]
    · rw [vd_neg fun e => c e.symm, if_neg c]
  | (k1, d1) :: kvs, h => by
    have hk : ¬ k1 = k := fun e => by rw [vd_pos e] at h; cases h
    rw [vd_neg hk] at h
    have ih := valD_snoc k j d kvs h
    rw [List.cons_append]
    by_cases c : k1 = j
    · have c2 : ¬ j = k := fun e => hk (c.trans e)
      rw [vd_pos c, vd_pos c, if_neg c2]
    · rw [vd_neg c, vd_neg c, ih]
theorem valD_set (kvs : List (L2.Key × D)) (k j : L2.Key) (d : D) : valD (setD kvs k d) j = if j = k then some d else valD kvs j := by
  unfold setD
  rw [valD_any]
  cases h : valD kvs k with
  | none =>
    rw [if_neg (by simp)]
    exact valD_snoc k j d kvs h
  | some x =>
    rw [if_pos (by simp), valD_map]
    by_cases c : j = k
    · subst c
      rw [h]
      simp
    · simp [c]
theorem setD_len (kvs : List (L2.Key × D)) (k : L2.Key) (d : D) : (setD kvs k d).length ≤ kvs.length + 1 := by
  unfold setD
  split
  · rw [List.length_map]; omega
  · simp
/-- a dict of data alone -/
def PureD (kvs : List (L2.Key × D)) : Prop := ∀ kv ∈ kvs, ∃ x, kv.2 = .p x
theorem PureD.set {kvs : List (L2.Key × D)} (h : PureD kvs) (k : L2.Key) (x : PyData) : PureD (setD kvs k (.p x)) := fun kv hk => by
  unfold setD at hk
  split at hk
  · obtain ⟨q, hq, rfl⟩ := List.mem_map.mp hk
    by_cases c : q.1 = k
    · exact ⟨x, by simp [c]⟩
    · simp only [c, if_false]
      exact h q hq
  · rcases List.mem_append.mp hk with hk | hk
    · exact h kv hk
    · rw [List.mem_singleton.mp hk]; exact ⟨x, rfl⟩
theorem CS.dct {st : Sto} {kvs : List (L2.Key × D)} (hc : CS st) (hp : PureD kvs) : CS (st ++ [.dct kvs]) := by
  have h := hc.app []
  have h : ((st ++ [OB.lst (([] : List PyData).map D.p)]).all (belowO (st ++ [OB.lst (([] : List PyData).map D.p)]).length)) = true := h
  show ((st ++ [OB.dct kvs]).all (belowO (st ++ [OB.dct kvs]).length)) = true
  rw [List.all_append, Bool.and_eq_true, List.length_append] at h ⊢
  refine ⟨h.1, ?_⟩
  rw [List.all_cons, List.all_nil, Bool.and_true]
  show (kvs.all fun p => belowD _ p.2) = true
  rw [List.all_eq_true]
  intro kv hk
  obtain ⟨x, e⟩ := hp kv hk
  rw [e]
  rfl
end MV

set_option Elab.async false
set_option linter.all false
set_option maxRecDepth 100000
set_option maxHeartbeats 4000000
namespace MV
open PySem
local instance : Tbs := ⟨[]⟩
/-! ### the commit in which a record was last -/
def lastI (css : List (List Int)) : Nat → Int → Option Nat
  | 0, _ => none
  | k + 1, v => if (css.getD k []).contains v then some k else lastI css k v
theorem lastI_mem {css : List (List Int)} {v : Int} : ∀ {k i : Nat}, lastI css k v = some i → i < k ∧ v ∈ css.getD i []
  | 0, _, h => by cases h
  | k + 1, i, h => by
    simp only [lastI] at h
    split at h
    · rename_i c
      cases h
      exact ⟨by omega, by simpa using c⟩
    · obtain ⟨h1, h2⟩ := lastI_mem h
      exact ⟨by omega, h2⟩
theorem lastI_ge {css : List (List Int)} {v : Int} {j : Nat} (hj : v ∈ css.getD j []) : ∀ {k : Nat}, j < k → ∃ i, lastI css k v = some i ∧ j ≤ i
  | 0, h => by omega
  | k + 1, h => by
    simp only [lastI]
    split
    · exact ⟨k, rfl, by omega⟩
    · rename_i c
      have : j ≠ k := fun e => c (by subst e; simpa using hj)
      exact lastI_ge hj (by omega)
def gapOf (css : List (List Int)) (k : Nat) (v : Int) : Int := match lastI css k v with
  | some i => (i : Nat)
  | none => -100
theorem near_iff {css : List (List Int)} {k : Nat} (hk : k ≤ css.length) {d : Int} (h0 : 0 ≤ d) (h1 : d ≤ 8) (v : Int) : decide ((k : Int) - gapOf css k v ≤ d) = (((css.take k).drop (k - d.toNat)).flatten).contains v := by
  have e : ((k : Int) - gapOf css k v ≤ d) ↔ v ∈ ((css.take k).drop (k - d.toNat)).flatten := by
    constructor
    · intro h
      unfold gapOf at h
      cases hl : lastI css k v with
      | none => rw [hl] at h; simp only at h; omega
      | some i =>
        rw [hl] at h
        simp only at h
        obtain ⟨a1, a2⟩ := lastI_mem hl
        have hi : i < css.length := by omega
        rw [List.getD_eq_getElem?_getD, List.getElem?_eq_getElem hi] at a2
        refine List.mem_flatten.mpr ⟨css[i], ?_, a2⟩
        refine List.mem_iff_getElem.mpr ⟨i - (k - d.toNat), ?_, ?_⟩
        · rw [List.length_drop, List.length_take]; omega
        · rw [List.getElem_drop, List.getElem_take]
          congr 1
          omega
    · intro h
      obtain ⟨c, hc, hv⟩ := List.mem_flatten.mp h
      obtain ⟨j, hj, rfl⟩ := List.getElem_of_mem hc
      rw [List.length_drop, List.length_take] at hj
      rw [List.getElem_drop, List.getElem_take] at hv
      have hv2 : v ∈ css.getD (k - d.toNat + j) [] := by
        rw [List.getD_eq_getElem?_getD, List.getElem?_eq_getElem (show k - d.toNat + j < css.length by omega)]
        exact hv
      obtain ⟨i, hi, hji⟩ := lastI_ge hv2 (show k - d.toNat + j < k by omega)
      unfold gapOf
      rw [hi]
      simp only
      omega
  by_cases c : (k : Int) - gapOf css k v ≤ d
  · rw [decide_eq_true c]
    exact (by simpa using e.mp c : _ = true).symm
  · rw [decide_eq_false c]
    have : v ∉ ((css.take k).drop (k - d.toNat)).flatten := fun h => c (e.mpr h)
    exact (by simpa using this : _ = false).symm
/-- a pure comprehension that reads the store -/
theorem comp_read {t : TF} {ft : FT} {fe : EF} {vs : List Nat} {fi : FI} {env : Ev} {st : Sto} {xs : List PyData} (p : PyData → Bool) (hi : fi env st = .ok (xs.map .p) st) (hc : CS st) (hl : xs.length ≤ lineN)
    (h : ∀ x ∈ xs, ∃ e1, t (.p x) (wipeE env vs) = some e1 ∧ ∀ acc : List PyData, ft e1 (st ++ [.lst (acc.map .p)]) = .ok (p x) (st ++ [.lst (acc.map .p)]) ∧ fe e1 (st ++ [.lst (acc.map .p)]) = .ok (.p x) (st ++ [.lst (acc.map .p)])) :
    fLc false vs fi t ft fe env st = .ok (.p (.list (xs.filter p))) st := by
  obtain ⟨s', acc', e, hI, hd⟩ := comp_inv (t := t) (ft := ft) (fe := fe) (n := st.length) (env := wipeE env vs)
    (fun s acc ds => s = st ∧ ∃ us ws, xs = us ++ ws ∧ ds = ws.map .p ∧ acc = (us.filter p).map .p) (fun h => by rw [h.1]) (fun {d ds s acc} hI => by
      obtain ⟨rfl, us, ws, hx, hds, rfl⟩ := hI
      cases ws with
      | nil => cases hds
      | cons y ws =>
        cases hds
        obtain ⟨e1, h1, h2⟩ := h y (by rw [hx]; simp)
        obtain ⟨h3, h4⟩ := h2 (us.filter p)
        refine ⟨e1, h1, p y, s, h3, ?_⟩
        cases hp : p y with
        | false => exact .inl ⟨rfl, rfl, us ++ [y], ws, by rw [hx]; simp, rfl, by simp [List.filter_append, hp]⟩
        | true =>
          refine .inr ⟨rfl, ?_, .p y, s, h4, rfl, us ++ [y], ws, by rw [hx]; simp, rfl, by simp [List.filter_append, hp]⟩
          have : (us.filter p).length ≤ us.length := List.length_filter_le ..
          rw [hx] at hl
          simp at hl ⊢
          omega) (xs.map .p) (s := st) (acc := []) ⟨rfl, [], xs, rfl, rfl, rfl⟩
  subst hI
  obtain ⟨us, ws, hx, hw, rfl⟩ := hd
  have hw : ws = [] := by simpa using hw.symm
  subst hw
  rw [List.append_nil] at hx
  subst hx
  exact comp_cut hi e rfl hc
/-- what the dict knows -/
def Knows (css : List (List Int)) (k : Nat) (kvs : List (L2.Key × D)) : Prop := PureD kvs ∧ ∀ v : Int, valD kvs (.inl v) = (lastI css k v).map fun i => D.p (.int (i : Nat))
section
variable {n a s w t d : Int} {st : Sto}
theorem get_known {css : List (List Int)} {k : Nat} {kvs : List (L2.Key × D)} (h : Knows css k kvs) (v : Int) (rest : Sto) : getD2 (.r st.length) (.p (.int v)) (.p (.int (-100))) (st ++ [.dct kvs] ++ rest) = .ok (.p (.int (gapOf css k v))) (st ++ [.dct kvs] ++ rest) ∧ isDct (st ++ [.dct kvs] ++ rest) (.r st.length) = true := by
  have g : (st ++ [OB.dct kvs] ++ rest)[st.length]? = some (.dct kvs) := by
    rw [List.append_assoc, List.getElem?_append_right (Nat.le_refl _)]
    simp
  have hv := h.2 v
  constructor
  · simp only [getD2, dctAt, g, keyD, hv]
    unfold gapOf
    cases lastI css k v <;> rfl
  · simp [isDct, dctAt, g]
theorem put_known {kvs : List (L2.Key × D)} {v : Int} {x : PyData} (hl : kvs.length + 1 ≤ lineN) : keepD (.r st.length) (.p (.int v)) (.p x) (st ++ [.dct kvs]) = some (st ++ [.dct (setD kvs (.inl v) (.p x))]) := by
  have g : (st ++ [OB.dct kvs])[st.length]? = some (.dct kvs) := by simp
  simp only [keepD, dctAt, g, keyD]
  rw [if_pos hl, List.set_append_right _ _ (Nat.le_refl _)]
  simp
theorem puts {y0 y1 y2 y4 y5 : Option D} {k : Nat} : ∀ (c : List Int) {kvs : List (L2.Key × D)} {l : Option D}, PureD kvs → kvs.length + c.length ≤ 900000 →
    ∃ kvs2 l2, loopS (gN 6) (cPutD (fV 7) (fV 6) (fV 3)) ((c.map PyData.int).map .p) [y0, y1, y2, some (.p (.int (k : Nat))), y4, y5, l, some (.r st.length)] (st ++ [.dct kvs]) = .nx [y0, y1, y2, some (.p (.int (k : Nat))), y4, y5, l2, some (.r st.length)] (st ++ [.dct kvs2]) ∧
      PureD kvs2 ∧ kvs2.length ≤ kvs.length + c.length ∧ ∀ v : Int, valD kvs2 (.inl v) = if c.contains v then some (.p (.int (k : Nat))) else valD kvs (.inl v)
  | [], kvs, l, hp, hl => ⟨kvs, l, rfl, hp, Nat.le_refl _, fun v => rfl⟩
  | u :: c, kvs, l, hp, hl => by
    have lz : lineN = 1000000 := rfl
    rw [List.length_cons] at hl
    have e := put_known (st := st) (kvs := kvs) (v := u) (x := .int (k : Nat)) (by omega)
    have sl := setD_len kvs (.inl u) (.p (.int (k : Nat)))
    obtain ⟨kvs2, l2, e2, h1, h2, h3⟩ := puts c (kvs := setD kvs (.inl u) (.p (.int (k : Nat)))) (l := some (.p (.int u))) (hp.set _ _) (by omega)
    refine ⟨kvs2, l2, ?_, h1, by rw [List.length_cons]; omega, fun v => ?_⟩
    · rw [List.map_cons, List.map_cons]
      unfold loopS
      simp only [gN_eq]
      have b : cPutD (fV 7) (fV 6) (fV 3) ([y0, y1, y2, some (.p (.int (k : Nat))), y4, y5, l, some (.r st.length)].set 6 (some (.p (.int u)))) (st ++ [.dct kvs]) = .nx [y0, y1, y2, some (.p (.int (k : Nat))), y4, y5, some (.p (.int u)), some (.r st.length)] (st ++ [.dct (setD kvs (.inl u) (.p (.int (k : Nat))))]) := by
        simp [cPutD, e]
      rw [b]
      exact e2
    · rw [h3 v, valD_set, List.contains_cons]
      by_cases c1 : v = u
      · subst c1
        simp
      · have c2 : (Sum.inl v : L2.Key) ≠ Sum.inl u := fun e => c1 (Sum.inl.inj e)
        rw [if_neg c2]
        simp [c1]
end
end MV

set_option Elab.async false
set_option linter.all false
set_option maxRecDepth 100000
set_option maxHeartbeats 4000000
namespace MV
open PySem
local instance : Tbs := ⟨[]⟩
section
variable {n a s w t d : Int} {st : Sto}
def nearC : EF := (fLc false [6] (fW (fV 4)) (gN 6) (fBT leD (fB subD (fV 3) (fGet2 (fV 7) (fV 6) (fU negD (fK (.int 100))))) (fB ixD (fV 0) (fK (.int 5)))) (fV 6))
def gpBody : SF := (cSeq (cIf (fBT (eqD true) nearC (fLst fNil)) (cRet (fTup (fCons (fK (.str "Gap")) (fCons (fV 3) (fCons (fK (.bool true)) fNil))))) cNx)
  (cFor (fW (fV 4)) (gN 6) (cPutD (fV 7) (fV 6) (fV 3))))
def backC (css : List (List Int)) (d : Int) (k : Nat) : List Int := ((css.take k).drop (k - d.toNat)).flatten
theorem near_comp (hc : CS st) (z : Sz n a s w t d) {css : List (List Int)} {k : Nat} (hk : k ≤ css.length) {kvs : List (L2.Key × D)} (hK : Knows css k kvs) {c : List Int} (hl : c.length ≤ 1000) {y1 y2 y5 y6 : Option D} :
    nearC [some (.p (szD n a s w t d)), y1, y2, some (.p (.int (k : Nat))), some (.p (tupI c)), y5, y6, some (.r st.length)] (st ++ [.dct kvs]) = .ok (.p (.list ((c.filter (backC css d k).contains).map .int))) (st ++ [.dct kvs]) := by
  have lz : lineN = 1000000 := rfl
  have e := comp_read (t := gN 6) (ft := fBT leD (fB subD (fV 3) (fGet2 (fV 7) (fV 6) (fU negD (fK (.int 100))))) (fB ixD (fV 0) (fK (.int 5)))) (fe := fV 6) (vs := [6]) (fi := fW (fV 4)) (env := [some (.p (szD n a s w t d)), y1, y2, some (.p (.int (k : Nat))), some (.p (tupI c)), y5, y6, some (.r st.length)]) (st := st ++ [.dct kvs]) (xs := c.map .int)
    (fun x => decide ((k : Int) - gapOf css k (valI x) ≤ d)) rfl (hc.dct hK.1) (by rw [List.length_map]; omega) (fun x hx => by
      obtain ⟨v, _, rfl⟩ := List.mem_map.mp hx
      refine ⟨[some (.p (szD n a s w t d)), y1, y2, some (.p (.int (k : Nat))), some (.p (tupI c)), y5, some (.p (.int v)), some (.r st.length)], rfl, fun acc => ⟨?_, rfl⟩⟩
      obtain ⟨g1, g2⟩ := get_known (st := st) hK v [.lst (acc.map .p)]
      generalize st ++ [OB.dct kvs] ++ [OB.lst (acc.map .p)] = q at g1 g2 ⊢
      have l5 : ∀ q, ixD (.p (szD n a s w t d)) (.p (.int 5)) q = .ok (.p (.int d)) q := fun _ => rfl
      by_cases hq : (k : Int) - gapOf css k v ≤ d <;> simp [fGet2, g1, g2, l5, valI, hq])
  have ef : (c.map PyData.int).filter (fun x => decide ((k : Int) - gapOf css k (valI x) ≤ d)) = (c.filter (backC css d k).contains).map .int := by
    rw [List.filter_map]
    congr 1
    refine List.filter_congr fun v _ => ?_
    exact near_iff hk z.d1 z.d2 v
  rw [ef] at e
  exact e
theorem gp_step (hc : CS st) (z : Sz n a s w t d) {css : List (List Int)} {k : Nat} (hk : k < css.length) {kvs : List (L2.Key × D)} (hK : Knows css k kvs) (hl : (css.getD k []).length ≤ 50) (hs : kvs.length ≤ 50 * k) (hb : k ≤ 10000) {y1 y2 y5 y6 : Option D} :
    (meets (css.getD k []) (backC css d k) = true → gpBody [some (.p (szD n a s w t d)), y1, y2, some (.p (.int (k : Nat))), some (.p (tupI (css.getD k []))), y5, y6, some (.r st.length)] (st ++ [.dct kvs]) = .ret (.p (.tuple [.str "Gap", .int (k : Nat), .bool true])) (st ++ [.dct kvs])) ∧
    (meets (css.getD k []) (backC css d k) = false → ∃ kvs2 y6', gpBody [some (.p (szD n a s w t d)), y1, y2, some (.p (.int (k : Nat))), some (.p (tupI (css.getD k []))), y5, y6, some (.r st.length)] (st ++ [.dct kvs]) = .nx [some (.p (szD n a s w t d)), y1, y2, some (.p (.int (k : Nat))), some (.p (tupI (css.getD k []))), y5, y6', some (.r st.length)] (st ++ [.dct kvs2]) ∧ Knows css (k + 1) kvs2 ∧ kvs2.length ≤ 50 * (k + 1)) := by
  have l3 : 3 ≤ lineN := by decide
  have l0 : 0 ≤ lineN := by decide
  have hcl : css.getD k [] = css.getD k [] := rfl
  generalize hce : css.getD k [] = c at hl ⊢
  have e1 := near_comp hc z (Nat.le_of_lt hk) hK (c := c) (by omega) (y1 := y1) (y2 := y2) (y5 := y5) (y6 := y6)
  have e2 := ints_nil true (c.filter (backC css d k).contains) (st ++ [.dct kvs])
  rw [meets_filter] at e2
  constructor
  · intro hm
    rw [hm] at e2
    generalize (c.filter (backC css d k).contains).map PyData.int = F at e1 e2
    generalize st ++ [OB.dct kvs] = q at e1 e2 ⊢
    simp only [gpBody]
    generalize nearC = N at e1 ⊢
    simp [e1, mkLst, l0, e2, mkTup, l3]
  · intro hm
    rw [hm] at e2
    obtain ⟨kvs2, l2, e3, h1, h2, h3⟩ := puts (st := st) (y0 := some (.p (szD n a s w t d))) (y1 := y1) (y2 := y2) (y4 := some (.p (tupI c))) (y5 := y5) (k := k) c (kvs := kvs) (l := y6) hK.1 (by omega)
    refine ⟨kvs2, l2, ?_, ⟨h1, fun v => ?_⟩, by omega⟩
    · have wk : walkD (.p (tupI c)) (st ++ [.dct kvs]) = .ok ((c.map PyData.int).map .p) (st ++ [.dct kvs]) := rfl
      generalize (c.filter (backC css d k).contains).map PyData.int = F at e1 e2
      generalize c.map PyData.int = CI at e3 wk
      generalize st ++ [OB.dct kvs] = q at e1 e2 e3 wk ⊢
      generalize tupI c = TC at e1 e3 wk ⊢
      simp only [gpBody]
      generalize nearC = N at e1 ⊢
      generalize cPutD (fV 7) (fV 6) (fV 3) = P at e3 ⊢
      simp [e1, mkLst, l0, e2, wk, e3]
    · rw [h3 v, hK.2 v]
      simp only [lastI]
      rw [hce]
      split <;> rfl
theorem gp_loop (hc : CS st) (z : Sz n a s w t d) {css : List (List Int)} (hL : ∀ c ∈ css, c.length ≤ 50) (hb : css.length ≤ 10000) {y1 y2 y5 : Option D} (bad : Nat → Bool) (hbad : ∀ k, k < css.length → bad k = meets (css.getD k []) (backC css d k)) :
    ∀ (m k : Nat) (kvs : List (L2.Key × D)) (y3 y4 y6 : Option D), k + m = css.length → Knows css k kvs → kvs.length ≤ 50 * k →
      (∀ i : Nat, (List.range' k m).find? bad = some i → ∃ kvs', loopS (gT [3, 4]) gpBody ((enN k ((css.drop k).map tupI)).map .p) [some (.p (szD n a s w t d)), y1, y2, y3, y4, y5, y6, some (.r st.length)] (st ++ [.dct kvs]) = .ret (.p (.tuple [.str "Gap", .int (i : Nat), .bool true])) (st ++ [.dct kvs'])) ∧
      ((List.range' k m).find? bad = none → ∃ kvs' env', loopS (gT [3, 4]) gpBody ((enN k ((css.drop k).map tupI)).map .p) [some (.p (szD n a s w t d)), y1, y2, y3, y4, y5, y6, some (.r st.length)] (st ++ [.dct kvs]) = .nx env' (st ++ [.dct kvs']))
  | 0, k, kvs, y3, y4, y6, hk, hK, hs => by
    rw [List.drop_eq_nil_of_le (by omega)]
    exact ⟨fun i h => (by cases h), fun _ => ⟨kvs, _, rfl⟩⟩
  | m + 1, k, kvs, y3, y4, y6, hk, hK, hs => by
    have hi : k < css.length := by omega
    have eg : css.getD k [] = css[k] := by rw [List.getD_eq_getElem?_getD, List.getElem?_eq_getElem hi]; rfl
    have st1 := gp_step hc z hi hK (by rw [eg]; exact hL _ (List.getElem_mem hi)) hs (by omega) (y1 := y1) (y2 := y2) (y5 := y5) (y6 := y6)
    rw [List.drop_eq_getElem_cons hi, List.map_cons, enN_cons, List.map_cons, ← eg, List.range'_succ, List.find?_cons, hbad k hi]
    unfold loopS
    have g : gT [3, 4] (.p (.tuple [.int (k : Nat), tupI (css.getD k [])])) [some (.p (szD n a s w t d)), y1, y2, y3, y4, y5, y6, some (.r st.length)] = some [some (.p (szD n a s w t d)), y1, y2, some (.p (.int (k : Nat))), some (.p (tupI (css.getD k []))), y5, y6, some (.r st.length)] := rfl
    rw [g]
    cases hm : meets (css.getD k []) (backC css d k) with
    | true =>
      simp only [st1.1 hm]
      exact ⟨fun i h => ⟨kvs, by cases h; rfl⟩, fun h => by cases h⟩
    | false =>
      obtain ⟨kvs2, y6', e, h1, h2⟩ := st1.2 hm
      simp only [e]
      exact gp_loop hc z hL hb bad hbad m (k + 1) kvs2 _ _ _ (by omega) h1 h2
end
end MV

set_option Elab.async false
set_option linter.all false
set_option maxRecDepth 100000
set_option maxHeartbeats 4000000
namespace MV
open PySem
local instance : Tbs := ⟨[]⟩
def whyS : Option (Str × Int) → PyData
  | none => .tuple []
  | some (c, i) => .tuple [.str c, .int i, .bool true]
section
variable {n a s w t d : Int} {st : Sto}
def meetC : EF := fLc false [6] (fW (fV 4)) (gN 6) (fBT (inS false) (fV 6) (fV 1)) (fV 6)
theorem meet_comp (hc : CS st) {sw c : List Int} (hl : c.length ≤ 1000) {y0 y2 y3 y5 y6 y7 : Option D} :
    meetC [y0, some (.p (.tuple (sw.map .int))), y2, y3, some (.p (tupI c)), y5, y6, y7] st = .ok (.p (.list ((c.filter sw.contains).map .int))) st := by
  have lz : lineN = 1000000 := rfl
  have e := comp_pure (t := gN 6) (ft := fBT (inS false) (fV 6) (fV 1)) (fe := fV 6) (vs := [6]) (fi := fW (fV 4)) (env := [y0, some (.p (.tuple (sw.map .int))), y2, y3, some (.p (tupI c)), y5, y6, y7]) (st := st) (xs := c.map .int)
    (fun x => sw.contains (valI x)) id rfl hc (by rw [List.length_map]; omega) (fun x hx => by
      obtain ⟨v, _, rfl⟩ := List.mem_map.mp hx
      refine ⟨[y0, some (.p (.tuple (sw.map .int))), y2, y3, some (.p (tupI c)), y5, some (.p (.int v)), y7], rfl, fun q _ => ⟨?_, fun _ => rfl⟩⟩
      have i2 := inS_T false v sw q
      show (inS false (.p (.int v)) (.p (.tuple (sw.map .int))) q).bind boolD = _
      rw [i2]
      rfl)
  rw [List.map_id, List.filter_map] at e
  exact e
def wpart (f : SF) : SF := (cSeq (cAsg (gN 5) (fLc false [3, 4] (fR enumS (fCons (fV 2) fNil)) (gT [3, 4]) (fBT (eqD true) meetC (fLst fNil)) (fV 3))) f)
theorem m_wrongS (hc : CS st) (z : Sz n a s w t d) {sw : List Int} {x : PyData} (hf : Fit x) : m_law_wrong [.p (szD n a s w t d), .p (.tuple (sw.map .int)), .p x] st = .ok (.p (whyS (chkX n t d sw 2000 x))) st := by
  have l3 : 3 ≤ lineN := by decide
  have l0 : 0 ≤ lineN := by decide
  obtain ⟨hp, hx⟩ := hf
  cases x with
  | tuple xs =>
    obtain ⟨ht, hl⟩ := hx xs rfl
    have hss : ∀ (SW : List PyData), startE 8 [D.p (szD n a s w t d), .p (.tuple SW), .p (.tuple xs)] = [some (.p (szD n a s w t d)), some (.p (.tuple SW)), some (.p (.tuple xs)), none, none, none, none, none] := fun _ => rfl
    simp only [chkX]
    by_cases cm : 2000 < (xs.length : Int)
    · rw [if_pos cm]
      generalize sw.map PyData.int = SW
      refine fnM_ret hc rfl ?_
      rw [hss]
      simp [b_law_wrong, kb_tt, cm, mkTup, l3, whyS]
    rw [if_neg cm]
    have gd : ∀ i (hi : i < xs.length), xs.getD i .none = xs[i] := fun i hi => by rw [List.getD_eq_getElem?_getD, List.getElem?_eq_getElem hi]; rfl
    have c1 := comp_enum (st := st) (ft := fNot (fT (fFn 2 m_law_is_form (fCons (fV 0) (fCons (fV 4) fNil))))) (x0 := some (.p (szD n a s w t d))) (x1 := some (.p (.tuple (sw.map .int)))) (x5 := none) (x6 := none) (x7 := none) (y3 := none) (y4 := none) (xs := xs) (fun i => !formX n t (xs.getD i .none)) hc (by omega) (fun i hi q hq => by
      have ef := m_lawform (n := n) (a := a) (s := s) (w := w) (t := t) (d := d) (st := q) hq (x := xs[i]) (ht _ (List.getElem_mem hi))
      rw [gd i hi]
      generalize xs[i] = y at ef ⊢
      generalize sw.map PyData.int = SW
      simp [ef])
    have en1 := fun l => num_nil true l st
    cases f1 : (List.range' 0 xs.length).find? (fun i => !formX n t (xs.getD i .none)) with
    | some i =>
      obtain ⟨r, e1⟩ := first_of_filter.1 i f1
      rw [e1] at c1
      have e2 := en1 (i :: r)
      have e3 := num_first i r st
      generalize numL (i :: r) = NL at c1 e2 e3
      generalize sw.map PyData.int = SW at c1 ⊢
      refine fnM_ret hc rfl ?_
      rw [hss]
      simp [b_law_wrong, kb_tt, cm, c1, mkLst, l0, e2, e3, mkTup, l3, whyS]
    | none =>
      have e1 := first_of_filter.2 f1
      rw [e1] at c1
      have e2 := en1 []
      obtain ⟨css, rfl, hf⟩ := forms_ints (n := n) (t := t) (xs := xs) (fun y hy => by
        obtain ⟨i, hi, rfl⟩ := List.getElem_of_mem hy
        have := find_none_all f1 i hi
        rw [gd i hi] at this
        simpa using this)
      have hl2 : css.length ≤ 2000 := by
        rw [List.length_map] at cm
        omega
      have t2 := z.t2
      have lc : ∀ c ∈ css, c.length ≤ 50 := fun c hc => by have := (hf c hc).1; omega
      have gi : ∀ i (hi : i < css.length), (css.map tupI).getD i .none = tupI (css.getD i []) ∧ css.getD i [] ∈ css := fun i hi => by
        rw [List.getD_eq_getElem?_getD, List.getElem?_map, List.getD_eq_getElem?_getD, List.getElem?_eq_getElem hi]
        exact ⟨rfl, List.getElem_mem hi⟩
      have gm : ∀ i (hi : i < (css.map tupI).length), (css.map tupI)[i] = tupI (css.getD i []) := fun i hi => by
        rw [← (gi i (by simpa using hi)).1, gd i hi]
      have c2 := comp_enum (st := st) (ft := fBT (eqD true) meetC (fLst fNil)) (x0 := some (.p (szD n a s w t d))) (x1 := some (.p (.tuple (sw.map .int)))) (x5 := some (.p (.list (numL [])))) (x6 := none) (x7 := none) (y3 := none) (y4 := none) (xs := css.map tupI) (fun i => meets (intsP ((css.map tupI).getD i .none)) sw) hc (by rw [List.length_map]; omega) (fun i hi q hq => by
        have hi2 : i < css.length := by simpa using hi
        rw [(gi i hi2).1, ints_tup, gm i hi]
        have em := meet_comp hq (sw := sw) (c := css.getD i []) (by have := lc _ (gi i hi2).2; omega) (y0 := some (.p (szD n a s w t d))) (y2 := some (.p (.tuple (css.map tupI)))) (y3 := some (.p (.int (i : Nat)))) (y5 := some (.p (.list (numL [])))) (y6 := none) (y7 := none)
        have e := ints_nil true ((css.getD i []).filter sw.contains) q
        rw [meets_filter] at e
        generalize ((css.getD i []).filter sw.contains).map PyData.int = F at em e
        generalize meets (css.getD i []) sw = M at e ⊢
        generalize tupI (css.getD i []) = TC at em ⊢
        generalize sw.map PyData.int = SW at em ⊢
        generalize css.map tupI = XS at em ⊢
        generalize meetC = MC at em ⊢
        cases M <;> simp [em, mkLst, l0, e])
      cases f2 : (List.range' 0 (css.map tupI).length).find? (fun i => meets (intsP ((css.map tupI).getD i .none)) sw) with
      | some i =>
        obtain ⟨r, e3⟩ := first_of_filter.1 i f2
        rw [e3] at c2
        have e4 := en1 (i :: r)
        have e5 := num_first i r st
        unfold meetC at c2
        generalize numL (i :: r) = NL at c2 e4 e5
        generalize numL [] = NN at c1 e2 c2
        generalize css.map tupI = XS at *
        generalize sw.map PyData.int = SW at c1 c2 ⊢
        refine fnM_ret hc rfl ?_
        rw [hss]
        simp [b_law_wrong, kb_tt, cm, c1, mkLst, l0, e2, c2, e4, e5, mkTup, l3, whyS]
      | none =>
        have e3 := first_of_filter.2 f2
        rw [e3] at c2
        have hK : Knows css 0 [] := ⟨fun _ h => (by cases h), fun v => rfl⟩
        have lp := gp_loop hc z lc (by omega) (y1 := some (.p (.tuple (sw.map .int)))) (y2 := some (.p (.tuple (css.map tupI)))) (y5 := some (.p (.list (numL [])))) (fun i => meets (intsP ((css.map tupI).getD i .none)) (backI d (css.map tupI) i)) (fun k hk => by
          show meets _ _ = _
          rw [(gi k hk).1, ints_tup, back_css]
          rfl) css.length 0 [] none none none (by omega) hK (by simp)
        rw [List.drop_zero] at lp
        have en := fun q => enN_S (css.map tupI) q
        rw [List.length_map]
        unfold meetC at c2
        unfold gpBody nearC at lp
        cases f3 : (List.range' 0 css.length).find? (fun i => meets (intsP ((css.map tupI).getD i .none)) (backI d (css.map tupI) i)) with
        | some i =>
          obtain ⟨kvs', e4⟩ := lp.1 i f3
          refine fnM_cut hc rfl (ext := [.dct kvs']) ?_
          rw [hss]
          generalize enN 0 (css.map tupI) = E at en e4
          generalize numL [] = NN at c1 e2 c2 e4
          generalize css.map tupI = XS at *
          generalize sw.map PyData.int = SW at c1 c2 e4 ⊢
          simp [b_law_wrong, kb_tt, cm, c1, mkLst, l0, e2, c2, fDct, en, e4, whyS]
        | none =>
          obtain ⟨kvs', env', e4⟩ := lp.2 f3
          refine fnM_cut hc rfl (ext := [.dct kvs']) ?_
          rw [hss]
          generalize enN 0 (css.map tupI) = E at en e4
          generalize numL [] = NN at c1 e2 c2 e4
          generalize css.map tupI = XS at *
          generalize sw.map PyData.int = SW at c1 c2 e4 ⊢
          simp [b_law_wrong, kb_tt, cm, c1, mkLst, l0, e2, c2, fDct, en, e4, mkTup, whyS]
  | dict _ => cases hp
  | _ =>
    generalize sw.map PyData.int = SW
    exact fnM_ret hc rfl (by simp [b_law_wrong, startE, kb_st, kb_lt, kb_nt, kb_bt, kb_it, mkTup, l3, whyS, chkX])
end
end MV

set_option Elab.async false
set_option linter.all false
set_option maxRecDepth 100000
set_option maxHeartbeats 4000000
namespace MV
open PySem
local instance : Tbs := ⟨[]⟩
theorem eq_strS (neg : Bool) (x : Str) (st : Sto) : eqD neg (.p (.str x)) (.p (.str x)) st = .ok (.p (.bool (!neg))) st := by cases neg <;> simp [eqD]
theorem eq_any0 (neg : Bool) {x : PyData} (h : SeqAt.shaped x = true) (st : Sto) : eqD neg (.p x) (.p (.tuple [])) st = .ok (.p (.bool (if neg then !PyData.eqv x (.tuple []) else PyData.eqv x (.tuple [])))) st := by
  have h0 : SeqAt.shaped (.tuple []) = true := by decide
  cases x <;> simp [eqD, eqG, dat, h, h0]
theorem shaped_ok {x : PyData} (h : okR x = true) : SeqAt.shaped x = true := by
  unfold okR at h
  rw [Bool.and_eq_true, Bool.and_eq_true] at h
  exact h.1.1
theorem hx_sc {c : Str} (h : c = "BadScript" ∨ c = "Sworn" ∨ c = "Gap") : hearX hl_law_heard c = some c := by
  rcases h with rfl | rfl | rfl <;> decide
theorem ok_sc {c : Str} (h : c = "BadScript" ∨ c = "Sworn" ∨ c = "Gap") : PyData.strOk c = true ∧ c.cps.size ≤ 100 := by
  rcases h with rfl | rfl | rfl <;> decide +kernel
theorem rl_sc {c : Str} (h : c = "BadScript" ∨ c = "Sworn" ∨ c = "Gap") : c ∈ refL := by
  rcases h with rfl | rfl | rfl <;> first | exact rl7 | exact rl8 | exact rl9
theorem okR_toldS {css : List (List Int)} (hc : css.length ≤ 3000) (h : ∀ c ∈ css, c.length ≤ 50 ∧ ∀ v ∈ c, -1000000000 ≤ v ∧ v ≤ 1000000000) : okR (.tuple [.str "told", .tuple (css.map tupI)]) = true := by
  unfold okR
  rw [Bool.and_eq_true, Bool.and_eq_true]
  have h9 : shortIs (css.map tupI) = true := by
    clear hc
    induction css with
    | nil => rfl
    | cons c r ih =>
      have := shorts_ints (h c (.head _)).2
      simp only [List.map_cons, tupI, shortIs, shortI, this, Bool.true_and]
      exact ih fun e he => h e (.tail _ he)
  have hs := shaped_tups css
  have h4 : PyData.canLayAll0 (css.map tupI) = true := by
    simp only [SeqAt.shaped, PyData.canLay0, Bool.and_eq_true] at hs
    exact hs.1
  have h5 : PyData.depthAll (css.map tupI) ≤ 1 := by
    clear hc h h9 hs h4
    induction css with
    | nil => simp [PyData.depthAll]
    | cons c r ih =>
      simp [tupI, PyData.depthAll, PyData.depth, depth_ints]
      omega
  have h6 : PyData.bulkAll (css.map tupI) ≤ css.length * 51 := by
    clear h9 hs h4 h5 hc
    induction css with
    | nil => simp [PyData.bulkAll]
    | cons c r ih =>
      have := (h c (.head _)).1
      have := ih fun e he => h e (.tail _ he)
      simp only [List.map_cons, tupI, PyData.bulkAll, PyData.bulk, bulk_ints, List.length_cons]
      omega
  have h7 : PyData.strOk "told" = true := by decide +kernel
  have h8 : ("told" : Str).cps.size = 4 := by decide +kernel
  refine ⟨⟨?_, by simp [shortI, shortIs, h9]⟩, ?_⟩
  · simp [SeqAt.shaped, PyData.canLay0, PyData.canLayAll0, PyData.depth, PyData.depthAll, h4, h7]
    omega
  · rw [decide_eq_true_eq]
    simp only [PyData.bulk, PyData.bulkAll, h8]
    omega
section
variable {n a s w t d : Int} {st : Sto}
theorem chk_le {sw : List Int} {most : Int} {x : PyData} {c : Str} {i : Int} (h : chkX n t d sw most x = some (c, i)) (hm : most ≤ 5000) : -1 ≤ i ∧ i ≤ 5000 := by
  have rng : ∀ {m j : Nat} {p : Nat → Bool}, (List.range' 0 m).find? p = some j → j < m := fun {m j p} e => by
    have := List.mem_of_find?_eq_some e
    rw [List.mem_range'_1] at this
    omega
  unfold chkX at h
  split at h
  · split at h
    · cases h; omega
    · split at h
      · rename_i e; cases h; have := rng e; omega
      · split at h
        · rename_i e; cases h; have := rng e; omega
        · split at h
          · rename_i e; cases h; have := rng e; omega
          · cases h
  · cases h; omega
theorem chk_css {sw : List Int} {x : PyData} (h : chkX n t d sw 2000 x = none) : ∃ css : List (List Int), x = .tuple (css.map tupI) ∧ css.length ≤ 2000 ∧ ∀ c ∈ css, (c.length : Int) = t ∧ ∀ v ∈ c, 0 ≤ v ∧ v ≤ n - 1 := by
  cases x with
  | tuple xs =>
    simp only [chkX] at h
    split at h
    · cases h
    · rename_i hm
      split at h
      · cases h
      · rename_i f1
        obtain ⟨css, rfl, hf⟩ := forms_ints (n := n) (t := t) (xs := xs) (fun y hy => by
          obtain ⟨i, hi, rfl⟩ := List.getElem_of_mem hy
          have := find_none_all f1 i hi
          rw [List.getD_eq_getElem?_getD, List.getElem?_eq_getElem hi] at this
          simpa using this)
        refine ⟨css, rfl, ?_, hf⟩
        rw [List.length_map] at hm
        omega
  | _ => cases h
theorem m_made_sc (hc : CS st) (z : Sz n a s w t d) {sw : List Int} (hs : Swn n t d sw) {x : PyData} (hf : Fit x) : m_made_script [.p (szD n a s w t d), .p (.tuple (sw.map .int)), .p x] st = orX x (chkX n t d sw 2000 x) st := by
  have e1 := hs.made hc z
  have e2 := m_check_sc hc z (sw := sw) (most := 2000) hf.1 hf.2
  have hss : ∀ (SW : List PyData), startE 3 [D.p (szD n a s w t d), .p (.tuple SW), .p x] = [some (.p (szD n a s w t d)), some (.p (.tuple SW)), some (.p x)] := fun _ => rfl
  generalize sw.map PyData.int = SW at e1 e2 ⊢
  cases hq : chkX n t d sw 2000 x with
  | none =>
    rw [hq] at e2
    simp only [orX] at e2
    exact fnM_ret hc rfl (by rw [hss]; simp [b_made_script, k_MOST_COMMITS, e1, e2])
  | some q =>
    obtain ⟨c, i⟩ := q
    rw [hq] at e2
    simp only [orX] at e2
    exact fnM_exc hc rfl (env := [some (.p (szD n a s w t d)), some (.p (.tuple SW)), some (.p x)]) (by rw [hss]; simp [b_made_script, k_MOST_COMMITS, e1, e2])
theorem m_is_sc (hc : CS st) (z : Sz n a s w t d) {sw : List Int} (hs : Swn n t d sw) {x : PyData} (hf : Fit x) : m_is_script [.p (szD n a s w t d), .p (.tuple (sw.map .int)), .p x] st = .ok (.p (.bool (chkX n t d sw 2000 x).isNone)) st := by
  have e := m_made_sc hc z hs hf
  have hss : ∀ (SW : List PyData), startE 3 [D.p (szD n a s w t d), .p (.tuple SW), .p x] = [some (.p (szD n a s w t d)), some (.p (.tuple SW)), some (.p x)] := fun _ => rfl
  generalize sw.map PyData.int = SW at e ⊢
  cases hq : chkX n t d sw 2000 x with
  | none =>
    rw [hq] at e
    simp only [orX] at e
    exact fnM_ret hc rfl (by rw [hss]; simp [b_is_script, e])
  | some q =>
    obtain ⟨c, i⟩ := q
    rw [hq] at e
    simp only [orX] at e
    exact fnM_ret hc rfl (by rw [hss]; simp [b_is_script, e, rl_sc (chk_cls hq)])
theorem law_rightS (hc : CS st) (z : Sz n a s w t d) {sw : List Int} (hs : Swn n t d sw) {x : PyData} (hf : Fit x) : m_law_right [.p (szD n a s w t d), .p (.tuple (sw.map .int)), .p x] st = .ok (.p (.bool true)) st := by
  have l0 : 0 ≤ lineN := by decide
  have l2 : 2 ≤ lineN := by decide
  have ew := m_wrongS hc z (sw := sw) hf
  have em := m_made_sc hc z hs hf
  have ei := m_is_sc hc z hs hf
  have hss : ∀ (SW : List PyData), startE 5 [D.p (szD n a s w t d), .p (.tuple SW), .p x] = [some (.p (szD n a s w t d)), some (.p (.tuple SW)), some (.p x), none, none] := fun _ => rfl
  cases hq : chkX n t d sw 2000 x with
  | some q =>
    obtain ⟨c, i⟩ := q
    rw [hq] at ew em ei
    simp only [orX] at em
    have hb := chk_le hq (by omega)
    have hcl := chk_cls hq
    have hh := hx_sc hcl
    have ok := okR_why (ok_sc hcl) (i := i) (by omega) (by omega)
    have en := fun neg => eq_any0 neg (shaped_ok ok) st
    have rp := repr_p (st := st) ok
    have rf := repr_p (st := st) (okR_b false)
    have ev : PyData.eqv (.tuple [.str c, .int i, .bool true]) (.tuple []) = false := by simp [PyData.eqv, PyData.eqvAll]
    simp only [ev] at en
    generalize sw.map PyData.int = SW at ew em ei ⊢
    refine fnM_ret hc rfl ?_
    rw [hss]
    simp [b_law_right, ew, whyS, fHearF, em, mkTup, l0, en, hh, tailD, rp, rf, ei, eq_strS]
  | none =>
    rw [hq] at ew em ei
    simp only [orX] at em
    obtain ⟨css, rfl, lc, hv⟩ := chk_css hq
    have n2 := z.n2
    have t2 := z.t2
    have ok := okR_toldS (css := css) (by omega) (fun c hc => by
      obtain ⟨h1, h2⟩ := hv c hc
      exact ⟨by omega, fun v hvc => by have := h2 v hvc; omega⟩)
    have en := fun neg => eq_any0 neg (x := .tuple []) (by decide) st
    have ev : PyData.eqv (.tuple []) (.tuple []) = true := by simp [PyData.eqv, PyData.eqvAll]
    simp only [ev] at en
    have rp := repr_p (st := st) ok
    have rt := repr_p (st := st) (okR_b true)
    generalize sw.map PyData.int = SW at ew em ei ⊢
    generalize css.map tupI = C at *
    refine fnM_ret hc rfl ?_
    rw [hss]
    simp [b_law_right, ew, whyS, fHearF, em, mkTup, l0, l2, en, rp, rt, ei, eq_strS]
end
end MV

set_option Elab.async false
set_option linter.all false
set_option maxRecDepth 100000
set_option maxHeartbeats 4000000
namespace MV
open PySem
local instance : Tbs := ⟨[]⟩
theorem pl_of {l : List PyData} (h : ∀ x ∈ l, plainP x = true) : allPl l = true := by
  induction l with
  | nil => rfl
  | cons x r ih => simp [allPl, h x (.head _), ih fun y hy => h y (.tail _ hy)]
theorem top_of {l : List PyData} (h : ∀ x ∈ l, plainP x = true) : topPl (.tuple l) = true := by
  simpa [topPl, plainP] using pl_of h
theorem plain_top {x : PyData} (h : topPl x = true) : plainP x = true := by
  unfold topPl at h
  rw [Bool.and_eq_true] at h
  exact h.1
theorem cut_in {l : List PyData} {lo hi : Option Int} {x : PyData} (h : x ∈ cutG l lo hi) : x ∈ l := List.mem_of_mem_drop (List.mem_of_mem_take h)
theorem cut_le (l : List PyData) (lo hi : Option Int) : (cutG l lo hi).length ≤ l.length := by
  unfold cutG
  rw [List.length_take, List.length_drop]
  omega
theorem ints_pl {is : List Int} : ∀ x ∈ is.map PyData.int, plainP x = true := fun x hx => by
  obtain ⟨v, _, rfl⟩ := List.mem_map.mp hx
  rfl
section
variable {rs : Sto} {n a s w t d : Int} {st : Sto}
theorem bent_commit_g (h : PS rs st) (z : Sz n a s w t d) {c : List Int} (hc : (c.length : Int) = t) : ∃ y st', m_law_bent_commit [.r 1, .p (szD n a s w t d), .p (tupI c)] st = .ok (.p y) st' ∧ PS rs st' ∧ topPl y = true := by
  have lz : lineN = 1000000 := rfl
  have n1 := z.n1
  have n2 := z.n2
  have t1 := z.t1
  have t2 := z.t2
  have pw : ∀ q : Sto, powD (.p (.int 10)) (.p (.int 20)) q = .ok (.p (.int 100000000000000000000)) q := fun q => by rfl
  have pi := ints_pl (is := c)
  have lc : (c.map PyData.int).length ≤ 8 := by rw [List.length_map]; omega
  have lc1 : 1 ≤ (c.map PyData.int).length := by rw [List.length_map]; omega
  have hR : tupI c = .tuple (c.map .int) := rfl
  rw [hR]
  generalize c.map PyData.int = R at pi lc lc1
  obtain ⟨k, s1, e1, h1, k0, k6⟩ := draw_g (many := 6) h (by omega) (by omega)
  obtain ⟨p, s2, e2, h2, p0, p1⟩ := draw_g (many := (R.length : Int)) h1 (by omega) (by omega)
  have st0 : startE 6 [D.r 1, .p (szD n a s w t d), .p (.tuple R)] = [some (.r 1), some (.p (szD n a s w t d)), some (.p (.tuple R)), none, none, none] := rfl
  have cl := cut_le R none (some p)
  have cl2 := cut_le R (some (p + 1)) none
  by_cases c1 : k < 2
  · obtain ⟨is, s3, e3, h3, hi⟩ := turned_g h2 (m := n) (by omega) (by omega)
    have sl : slD false (.p (.list (is.map .int))) none (some t) s3 = .ok (.p (.list ((is.take t.toNat).map .int))) s3 := by
      show MV.R.ok (D.p (.list (cutG (is.map PyData.int) none (some t)))) s3 = _
      rw [cut_front _ (by omega), List.map_take]
    have es := sort_ints (is.take t.toNat) s3
    have t3 : ∀ (x : List PyData) q, tupOf (.p (.list x)) q = .ok (.p (.tuple x)) q := fun _ _ => rfl
    refine ⟨.tuple ((sortI (is.take t.toNat)).map .int), s3, fnM_ret h3.cs (h.ll h3) ?_, h3, top_of ints_pl⟩
    rw [st0]
    generalize (sortI (is.take t.toNat)).map PyData.int = T at es ⊢
    generalize (is.take t.toNat).map PyData.int = X at sl es
    generalize is.map PyData.int = I at e3 sl
    simp [b_law_bent_commit, e1, e2, cPar, c1, sz_at0, sz_at4, e3, fSl, fNo, fSo, sl, es, t3]
  by_cases c2 : k = 2
  · obtain ⟨x, s3, e3, h3, hx⟩ := pick_g (ps := [.int (-1), .int n, .none, .bool true, .bool false, .str "0", .tuple [.int 0], .int 100000000000000000000, .int 0]) h2 (by simp) (by simp)
    have px : plainP x = true := by
      simp only [List.mem_cons, List.not_mem_nil, or_false] at hx
      rcases hx with rfl | rfl | rfl | rfl | rfl | rfl | rfl | rfl | rfl <;> rfl
    have t1' := addT' (x := cutG R none (some p)) (y := [x]) s3 (by simp; omega)
    have t2' := addT' (x := cutG R none (some p) ++ [x]) (y := cutG R (some (p + 1)) none) s3 (by simp; omega)
    refine ⟨.tuple (cutG R none (some p) ++ [x] ++ cutG R (some (p + 1)) none), s3, fnM_ret h3.cs (h.ll h3) ?_, h3, top_of fun y hy => ?_⟩
    · rw [st0]
      simp [b_law_bent_commit, e1, e2, cPar, c1, c2, eqD_i, sz_at0, mkLst, mkTup, lz, pw, e3, fSl, slD, fNo, fSo, t1', t2']
    · simp only [List.mem_append, List.mem_singleton] at hy
      rcases hy with (hy | rfl) | hy
      · exact pi y (cut_in hy)
      · exact px
      · exact pi y (cut_in hy)
  by_cases c3 : k = 3
  · have cl3 := cut_le R none (some 1)
    have t1' := addT' (x := R) (y := cutG R none (some 1)) s2 (by omega)
    obtain ⟨x, s3, e3, h3, hx⟩ := pick_g (ps := [.none, .int 0, .list R, .tuple R.reverse, .tuple (R ++ cutG R none (some 1)), .tuple (cutG R (some 1) none), .str "0", .tuple []]) h2 (by simp) (by simp)
    refine ⟨x, s3, fnM_ret h3.cs (h.ll h3) ?_, h3, ?_⟩
    · rw [st0]
      simp [b_law_bent_commit, e1, e2, cPar, c1, c3, eqD_i, mkLst, mkTup, lz, listOf, itemsD, allP_map, revD, fSl, slD, fNo, fSo, t1', e3]
    · simp only [List.mem_cons, List.not_mem_nil, or_false] at hx
      rcases hx with rfl | rfl | rfl | rfl | rfl | rfl | rfl | rfl
      · rfl
      · rfl
      · rfl
      · exact top_of fun y hy => pi y (List.mem_reverse.mp hy)
      · exact top_of fun y hy => by
          rcases List.mem_append.mp hy with hy | hy
          · exact pi y hy
          · exact pi y (cut_in hy)
      · exact top_of fun y hy => pi y (cut_in hy)
      · rfl
      · rfl
  · refine ⟨.tuple R, s2, fnM_ret h2.cs (h.ll h2) ?_, h2, top_of pi⟩
    rw [st0]
    simp [b_law_bent_commit, e1, e2, cPar, c1, c2, c3, eqD_i]
end
end MV

set_option Elab.async false
set_option linter.all false
set_option maxRecDepth 100000
set_option maxHeartbeats 4000000
namespace MV
open PySem
local instance : Tbs := ⟨[]⟩
theorem fit_of {l : List PyData} (h : ∀ y ∈ l, topPl y = true) (hl : l.length ≤ 10000) : Fit (.tuple l) := ⟨rfl, fun xs q => by cases q; exact ⟨h, hl⟩⟩
theorem fit_no {x : PyData} (h : plainP x = true) (h2 : ∀ xs, x ≠ .tuple xs) : Fit x := ⟨h, fun xs q => (h2 xs q).elim⟩
theorem put_at {s : Sto} {k : Nat} (hk : s.length = k) {L : List PyData} {i : Nat} {y : PyData} (hi : i < L.length) : putIx (.r k) (.p (.int (i : Nat))) (.p y) (s ++ [.lst (L.map .p)]) = some (s ++ [.lst ((L.set i y).map .p)]) := by
  subst hk
  have g : (s ++ [OB.lst (L.map D.p)])[s.length]? = some (.lst (L.map .p)) := by simp
  have ix : L2.ixN (L.map D.p).length (i : Nat) = some i := by
    rw [List.length_map]
    unfold L2.ixN
    rw [if_pos (by omega), if_pos (by omega)]
    rfl
  simp only [putIx, lstAt, g, ix]
  rw [List.set_append_right _ _ (Nat.le_refl _)]
  simp [List.map_set]
section
variable {n a s w t d : Int} {st : Sto}
def bnBody : SF := (cIf (fBT ltD (fV 7) (fC (arg1 lenD) (fCons (fV 2) fNil))) (cPut (fV 6) (fV 7) (fFn 3 m_law_bent_commit (fCons (fV 0) (fCons (fV 1) (fCons (fB ixD (fV 2) (fV 7)) fNil))))) cNx)
theorem bn_step (h : PS [] st) (z : Sz n a s w t d) {css : List (List Int)} (hc : ∀ c ∈ css, (c.length : Int) = t) {L : List PyData} (hL : ∀ y ∈ L, topPl y = true) (hl : L.length = css.length) {k : Nat} (hk : st.length = k) {p : Int} (p0 : 0 ≤ p) {y3 y4 y5 : Option D} :
    ∃ (LL : List PyData) (s2 : Sto), bnBody [some (.r 1), some (.p (szD n a s w t d)), some (.p (.tuple (css.map tupI))), y3, y4, y5, some (.r k), some (.p (.int p))] (st ++ [.lst (L.map .p)]) = .nx [some (.r 1), some (.p (szD n a s w t d)), some (.p (.tuple (css.map tupI))), y3, y4, y5, some (.r k), some (.p (.int p))] (s2 ++ [.lst (LL.map .p)]) ∧ PS [] s2 ∧ (∀ y ∈ LL, topPl y = true) ∧ LL.length = css.length := by
  have ln : ∀ q, lenD (.p (.tuple (css.map tupI))) q = .ok (.p (.int (css.length : Nat))) q := fun q => by simp [lenD, itemsD]
  have ltD_i : ∀ (i j : Int) (q : Sto), ltD (.p (.int i)) (.p (.int j)) q = .ok (.p (.bool (decide (i < j)))) q := fun _ _ _ => rfl
  by_cases c : p < (css.length : Int)
  · obtain ⟨i, rfl⟩ : ∃ i : Nat, p = (i : Nat) := ⟨p.toNat, by omega⟩
    have hi : i < css.length := by omega
    have ix := ix_get (css.map tupI) i (by rw [List.length_map]; exact hi) (st ++ [.lst (L.map .p)])
    have eg : (css.map tupI).getD i .none = tupI css[i] := by
      rw [List.getD_eq_getElem?_getD, List.getElem?_map, List.getElem?_eq_getElem hi]
      rfl
    rw [eg] at ix
    have hp1 : PS ([] ++ [.lst (L.map .p)]) (st ++ [.lst (L.map .p)]) := h.snoc L
    obtain ⟨y, s', e, ps, ty⟩ := bent_commit_g hp1 z (hc _ (List.getElem_mem hi))
    obtain ⟨s2, rfl, hs2⟩ := PS.cut ps rfl
    have k2 : s2.length = k := by rw [← hk]; exact h.ll hs2
    have pt := put_at k2 (L := L) (i := i) (y := y) (by omega)
    refine ⟨L.set i y, s2, ?_, hs2, fun u hu => ?_, by rw [List.length_set]; exact hl⟩
    · have c' : ((i : Nat) : Int) < ((css.map tupI).length : Int) := by rw [List.length_map]; exact c
      generalize tupI css[i] = TC at ix e
      generalize css.map tupI = C at ix c' ⊢
      generalize (L.set i y).map D.p = LL at pt ⊢
      generalize L.map D.p = L1 at ix e pt ⊢
      simp [bnBody, c', ix, e, cPut, pt]
    · rcases List.mem_or_eq_of_mem_set hu with hu | rfl
      · exact hL u hu
      · exact ty
  · refine ⟨L, st, ?_, h, hL, hl⟩
    have c' : ¬ p < ((css.map tupI).length : Int) := by rw [List.length_map]; exact c
    generalize css.map tupI = C at c' ⊢
    simp [bnBody, c']
theorem bent_s_g (h : PS [] st) (z : Sz n a s w t d) {css : List (List Int)} (hc : ∀ c ∈ css, (c.length : Int) = t) (hl : css.length ≤ 100) : ∃ x st', m_law_bent [.r 1, .p (szD n a s w t d), .p (.tuple (css.map tupI))] st = .ok (.p x) st' ∧ PS [] st' ∧ Fit x := by
  have lz : lineN = 1000000 := rfl
  have topC : ∀ y ∈ css.map tupI, topPl y = true := fun y hy => by
    obtain ⟨c, _, rfl⟩ := List.mem_map.mp hy
    exact top_of ints_pl
  obtain ⟨k, hk⟩ : ∃ k, st.length = k := ⟨_, rfl⟩
  have stp := fun {q : Sto} (hq : PS [] q) {L : List PyData} (hL : ∀ y ∈ L, topPl y = true) (hl : L.length = css.length) {p : Int} (p0 : 0 ≤ p) {y3 y4 y5 : Option D} => bn_step (n := n) (a := a) (s := s) (w := w) (t := t) (d := d) hq z hc hL hl (k := k) (by rw [← hk]; exact h.ll hq) p0 (y3 := y3) (y4 := y4) (y5 := y5)
  have lC : (css.map tupI).length = css.length := List.length_map ..
  generalize css.map tupI = C at topC stp lC ⊢
  obtain ⟨way, s1, e1, h1, w0, w1⟩ := draw_g (many := 8) h (by omega) (by omega)
  obtain ⟨p, s2, e2, h2, p0, p1⟩ := draw_g (many := (C.length : Int) + 1) h1 (by omega) (by omega)
  obtain ⟨q, s3, e3, h3, q0, q1⟩ := draw_g (many := (C.length : Int) + 1) h2 (by omega) (by omega)
  have st0 : startE 8 [D.r 1, .p (szD n a s w t d), .p (.tuple C)] = [some (.r 1), some (.p (szD n a s w t d)), some (.p (.tuple C)), none, none, none, none, none] := rfl
  have m1 := cut_le C none (some p)
  have m2 := cut_le C (some q) (some (q + 1))
  have m3 := cut_le C (some p) none
  have m4 := cut_le C (some (p + 1)) none
  by_cases c0 : way = 0
  · obtain ⟨x, s4, e4, h4, hx⟩ := pick_g (ps := [.none, .int 0, .str "script", .list C, .bool true, .tuple [.tuple C]]) h3 (by simp) (by simp)
    refine ⟨x, s4, fnM_ret h4.cs (h.ll h4) ?_, h4, ?_⟩
    · rw [st0]
      simp [b_law_bent, e1, e2, e3, cPar, c0, eqD_i, mkLst, mkTup, lz, listOf, itemsD, allP_map, e4]
    · simp only [List.mem_cons, List.not_mem_nil, or_false] at hx
      rcases hx with rfl | rfl | rfl | rfl | rfl | rfl
      · exact fit_no rfl fun _ h => by cases h
      · exact fit_no rfl fun _ h => by cases h
      · exact fit_no rfl fun _ h => by cases h
      · exact fit_no rfl fun _ h => by cases h
      · exact fit_no rfl fun _ h => by cases h
      · refine fit_of (fun y hy => ?_) (by simp)
        rw [List.mem_singleton.mp hy]
        exact top_of fun u hu => plain_top (topC u hu)
  by_cases c1 : way = 1
  · have a1 := addT' (x := cutG C none (some p)) (y := cutG C (some q) (some (q + 1))) s3 (by omega)
    have a2 := addT' (x := cutG C none (some p) ++ cutG C (some q) (some (q + 1))) (y := cutG C (some p) none) s3 (by rw [List.length_append]; omega)
    refine ⟨_, s3, fnM_ret h3.cs (h.ll h3) (x := .tuple (cutG C none (some p) ++ cutG C (some q) (some (q + 1)) ++ cutG C (some p) none)) ?_, h3, fit_of (fun y hy => ?_) (by rw [List.length_append, List.length_append]; omega)⟩
    · rw [st0]
      generalize cutG C none (some p) ++ cutG C (some q) (some (q + 1)) ++ cutG C (some p) none = Z at a2 ⊢
      generalize cutG C none (some p) ++ cutG C (some q) (some (q + 1)) = Y at a1 a2
      simp [b_law_bent, e1, e2, e3, cPar, c1, eqD_i, fSl, slD, fNo, fSo, a1, a2]
    · rcases List.mem_append.mp hy with hy | hy
      · rcases List.mem_append.mp hy with hy | hy
        · exact topC y (cut_in hy)
        · exact topC y (cut_in hy)
      · exact topC y (cut_in hy)
  by_cases c2 : way = 2
  · have a1 := addT' (x := cutG C none (some p)) (y := cutG C (some (p + 1)) none) s3 (by omega)
    refine ⟨_, s3, fnM_ret h3.cs (h.ll h3) (x := .tuple (cutG C none (some p) ++ cutG C (some (p + 1)) none)) ?_, h3, fit_of (fun y hy => ?_) (by rw [List.length_append]; omega)⟩
    · rw [st0]
      generalize cutG C none (some p) ++ cutG C (some (p + 1)) none = Z at a1 ⊢
      simp [b_law_bent, e1, e2, e3, cPar, c2, eqD_i, fSl, slD, fNo, fSo, a1]
    · rcases List.mem_append.mp hy with hy | hy
      · exact topC y (cut_in hy)
      · exact topC y (cut_in hy)
  · have k3 : s3.length = k := by rw [← hk]; exact h.ll h3
    have sp : ∃ ps : List PyData, (∀ x ∈ ps, ∃ i : Int, 0 ≤ i ∧ x = .int i) ∧ ∃ m : Int, intOf (.p (.bool (decide (way > 5)))) (s3 ++ [.lst (C.map .p)]) = .ok (.p (.int m)) (s3 ++ [.lst (C.map .p)]) ∧ slD false (.p (.list [.int p, .int q])) none (some (1 + m)) (s3 ++ [.lst (C.map .p)]) = .ok (.p (.list ps)) (s3 ++ [.lst (C.map .p)]) := by
      refine ⟨cutG [.int p, .int q] none (some (1 + if decide (way > 5) = true then 1 else 0)), fun x hx => ?_, _, rfl, rfl⟩
      have := cut_in hx
      simp only [List.mem_cons, List.not_mem_nil, or_false] at this
      rcases this with rfl | rfl
      · exact ⟨p, p0, rfl⟩
      · exact ⟨q, q0, rfl⟩
    obtain ⟨ps, hps, m, ei, es⟩ := sp
    obtain ⟨env', q', el, ⟨s4, L, rfl, h4, hL, lL, y7, he⟩⟩ := loop_inv (t := gN 7) (f := bnBody) (fun env u => ∃ s4 L, u = s4 ++ [.lst (L.map .p)] ∧ PS [] s4 ∧ (∀ y ∈ L, topPl y = true) ∧ L.length = css.length ∧ ∃ y7, env = [some (.r 1), some (.p (szD n a s w t d)), some (.p (.tuple C)), some (.p (.int way)), some (.p (.int p)), some (.p (.int q)), some (.r k), y7]) (ps.map .p) (fun x hx env u hI => by
      obtain ⟨s4, L, rfl, h4, hL, lL, y7, rfl⟩ := hI
      obtain ⟨y, hy, rfl⟩ := List.mem_map.mp hx
      obtain ⟨i, i0, rfl⟩ := hps y hy
      obtain ⟨L2, s5, e, h5, hL2, lL2⟩ := stp h4 hL lL i0 (y3 := some (.p (.int way))) (y4 := some (.p (.int p))) (y5 := some (.p (.int q)))
      exact ⟨_, rfl, _, _, e, s5, L2, rfl, h5, hL2, lL2, _, rfl⟩) (env := [some (.r 1), some (.p (szD n a s w t d)), some (.p (.tuple C)), some (.p (.int way)), some (.p (.int p)), some (.p (.int q)), some (.r k), none]) (st := s3 ++ [.lst (C.map .p)]) ⟨s3, C, rfl, h3, topC, lC, none, rfl⟩
    subst he
    have k4 : s4.length = k := by rw [← hk]; exact h.ll h4
    have tl : tupOf (.r k) (s4 ++ [.lst (L.map .p)]) = .ok (.p (.tuple L)) (s4 ++ [.lst (L.map .p)]) := by subst k4; exact tup_last
    have lo : listOf true (.p (.tuple C)) s3 = .ok (.r k) (s3 ++ [.lst (C.map .p)]) := by
      simp [listOf, itemsD, k3]
    refine ⟨.tuple L, s4, fnM_cut h4.cs (h.ll h4) (ext := [.lst (L.map .p)]) ?_, h4, fit_of hL (by omega)⟩
    rw [st0]
    unfold bnBody at el
    generalize s3 ++ [OB.lst (C.map D.p)] = u at el ei es lo
    generalize s4 ++ [OB.lst (L.map D.p)] = v at el tl ⊢
    have gt : gtD (.p (.int way)) (.p (.int 5)) u = .ok (.p (.bool (decide (way > 5)))) u := rfl
    simp [b_law_bent, e1, e2, e3, cPar, c0, c1, c2, eqD_i, lo, mkLst, lz, gt, ei, fSl, fNo, fSo, es, walkD, el, tl]
end
end MV

set_option Elab.async false
set_option linter.all false
set_option maxRecDepth 100000
set_option maxHeartbeats 8000000
namespace MV
open PySem
local instance : Tbs := ⟨[]⟩
section
variable {n a s w t d : Int} {st : Sto}
/-! ### the sizes -/
def szPart (f : SF) : SF := (cSeq (cAsg (gN 6) (fIf (fBT (eqD false) (fFn 2 m_law_draw (fCons (fV 1) (fCons (fK (.int 6)) fNil))) (fK (.int 0))) (fFn 2 m_law_stand_rims (fCons (fV 1) (fCons (fK (.int 5)) fNil))) (fFn 5 m_law_stand_sizes (fCons (fV 1) (fCons (fK (.int 9)) (fCons (fK (.int 2)) (fCons (fK (.int 5)) (fCons (fK (.int 60)) fNil))))))))
  (cSeq (cIf (fBT (eqD false) (fFn 2 m_law_draw (fCons (fV 1) (fCons (fK (.int 24)) fNil))) (fK (.int 0))) (cAsg (gN 6) (fFn 1 m_law_stand_great (fCons (fV 1) fNil))) cNx)
  (cSeq (cIf (fBT (eqD false) (fFn 2 m_law_draw (fCons (fV 1) (fCons (fK (.int 6)) fNil))) (fK (.int 0))) (cAsg (gN 6) (fTup (fCons (fB addD (fK (.int 9)) (fFn 2 m_law_draw (fCons (fV 1) (fCons (fK (.int 3)) fNil)))) (fCons (fK (.int 1)) (fCons (fK (.int 1)) (fCons (fK (.int 3)) (fCons (fK (.int 1)) (fCons (fK (.int 8)) fNil)))))))) cNx) f)))
theorem sizes_g (hp : PS [] st) {x0 : Option D} : ∃ n a s w t d st', PS [] st' ∧ Sz n a s w t d ∧ ∀ f, szPart f [x0, some (.r 1), none, none, none, none, none] st = f [x0, some (.r 1), none, none, none, none, some (.p (szD n a s w t d))] st' := by
  have l6 : 6 ≤ lineN := by decide
  obtain ⟨q1, s1, e1, p1, _, _⟩ := draw_g (many := 6) hp (by omega) (by omega)
  have first : ∃ n a s w t d s2, PS [] s2 ∧ Sz n a s w t d ∧ (if q1 = 0 then m_law_stand_rims [.r 1, .p (.int 5)] s1 else m_law_stand_sizes [.r 1, .p (.int 9), .p (.int 2), .p (.int 5), .p (.int 60)] s1) = .ok (.p (szD n a s w t d)) s2 := by
    by_cases c : q1 = 0
    · obtain ⟨n, a, s, w, t, d, s2, e, p, z⟩ := rims_g p1 (lv := 5) (by omega) (by omega)
      exact ⟨n, a, s, w, t, d, s2, p, z, by rw [if_pos c]; exact e⟩
    · obtain ⟨n, a, s, w, t, d, s2, e, p, z, _⟩ := stand_g (p1 := 9) (p2 := 2) (p3 := 5) (p4 := 60) p1 (by omega) (by omega) (by omega) (by omega) (by omega) (by omega) (by omega) (by omega)
      exact ⟨n, a, s, w, t, d, s2, p, z, by rw [if_neg c]; exact e⟩
  obtain ⟨n1, a1, b1, w1, t1, d1, s2, p2, z2, e2⟩ := first
  obtain ⟨q3, s3, e3, p3, _, _⟩ := draw_g (many := 24) p2 (by omega) (by omega)
  have second : ∃ n a s w t d s4, PS [] s4 ∧ Sz n a s w t d ∧ ((q3 = 0 ∧ m_law_stand_great [.r 1] s3 = .ok (.p (szD n a s w t d)) s4) ∨ (q3 ≠ 0 ∧ s4 = s3 ∧ szD n a s w t d = szD n1 a1 b1 w1 t1 d1)) := by
    by_cases c : q3 = 0
    · obtain ⟨n, a, s, w, t, d, s4, e, p, z⟩ := great_sz_g p3
      exact ⟨n, a, s, w, t, d, s4, p, z, .inl ⟨c, e⟩⟩
    · exact ⟨n1, a1, b1, w1, t1, d1, s3, p3, z2, .inr ⟨c, rfl, rfl⟩⟩
  obtain ⟨n2, a2, b2, w2, t2, d2, s4, p4, z4, e4⟩ := second
  obtain ⟨q5, s5, e5, p5, _, _⟩ := draw_g (many := 6) p4 (by omega) (by omega)
  have step : ∀ f, szPart f [x0, some (.r 1), none, none, none, none, none] st = (cSeq (cIf (fBT (eqD false) (fFn 2 m_law_draw (fCons (fV 1) (fCons (fK (.int 6)) fNil))) (fK (.int 0))) (cAsg (gN 6) (fTup (fCons (fB addD (fK (.int 9)) (fFn 2 m_law_draw (fCons (fV 1) (fCons (fK (.int 3)) fNil)))) (fCons (fK (.int 1)) (fCons (fK (.int 1)) (fCons (fK (.int 3)) (fCons (fK (.int 1)) (fCons (fK (.int 8)) fNil)))))))) cNx) f) [x0, some (.r 1), none, none, none, none, some (.p (szD n2 a2 b2 w2 t2 d2))] s4 := fun f => by
    unfold szPart
    rcases e4 with ⟨c3, e4⟩ | ⟨c3, rfl, e4⟩
    · by_cases c : q1 = 0
      · rw [if_pos c] at e2
        simp [e1, c, eqD_i, e2, e3, c3, e4]
      · rw [if_neg c] at e2
        simp [e1, c, eqD_i, e2, e3, c3, e4]
    · rw [e4]
      by_cases c : q1 = 0
      · rw [if_pos c] at e2
        simp [e1, c, eqD_i, e2, e3, c3]
      · rw [if_neg c] at e2
        simp [e1, c, eqD_i, e2, e3, c3]
  by_cases c : q5 = 0
  · obtain ⟨q6, s6, e6, p6, r0, r1⟩ := draw_g (many := 3) p5 (by omega) (by omega)
    refine ⟨9 + q6, 1, 1, 3, 1, 8, s6, p6, by constructor <;> omega, fun f => ?_⟩
    rw [step]
    simp [e5, c, eqD_i, e6, mkTup, l6]
  · refine ⟨n2, a2, b2, w2, t2, d2, s5, p5, z4, fun f => ?_⟩
    rw [step]
    simp [e5, c, eqD_i]
end
def longC : List (List Int) := (List.replicate 1000 [[0], [1]]).flatten
theorem long_eq : longC = (List.range 2000).map fun k => [((k % 2 : Nat) : Int)] := by decide +kernel
theorem long_scr : Scr 2 1 1 [] longC := by
  rw [long_eq]
  have mem : ∀ c ∈ (List.range 2000).map (fun k => [((k % 2 : Nat) : Int)]), ∃ k : Nat, c = [((k % 2 : Nat) : Int)] := fun c h => by
    obtain ⟨k, _, rfl⟩ := List.mem_map.mp h
    exact ⟨k, rfl⟩
  refine ⟨fun c h => ?_, fun c h => ?_, fun c h v hv => ?_, fun c h v hv => by simp, fun i hi v hv hb => ?_⟩
  · obtain ⟨k, rfl⟩ := mem c h
    simp
  · obtain ⟨k, rfl⟩ := mem c h
    rfl
  · obtain ⟨k, rfl⟩ := mem c h
    rw [List.mem_singleton.mp hv]
    omega
  · obtain ⟨c, hc, hcv⟩ := List.mem_flatten.mp hb
    obtain ⟨j, hj, e⟩ := List.getElem_of_mem hc
    rw [List.length_drop, List.length_take] at hj
    rw [List.getElem_drop, List.getElem_take] at e
    have hi' : i < 2000 := by simpa using hi
    simp only [List.getElem_map, List.getElem_range] at e hv
    have d1 : (1 : Int).toNat = 1 := rfl
    rw [d1] at e hj
    subst e
    have h1 := List.mem_singleton.mp hv
    have h2 := List.mem_singleton.mp hcv
    omega
theorem long_right {st : Sto} (hc : CS st) : m_law_long_right [] st = .ok (.p (.bool true)) st := by
  have l0 : 0 ≤ lineN := by decide
  have l1 : 1 ≤ lineN := by decide
  have l2 : 2 ≤ lineN := by decide
  have l3 : 3 ≤ lineN := by decide
  have l6 : 6 ≤ lineN := by decide
  have z : Sz 2 1 1 2 1 1 := by constructor <;> decide
  have hs : Swn 2 1 1 [] := ⟨.nil, fun _ h => (by cases h), by decide⟩
  have ln : longC.length = 2000 := by rw [long_eq]; simp
  have topL : ∀ y ∈ longC.map tupI, topPl y = true := fun y hy => by
    obtain ⟨c, _, rfl⟩ := List.mem_map.mp hy
    exact top_of ints_pl
  have f1 : Fit (.tuple (longC.map tupI)) := fit_of topL (by rw [List.length_map, ln]; omega)
  have f2 : Fit (.tuple (longC.map tupI ++ [tupI [0]])) := fit_of (fun y hy => by
    rcases List.mem_append.mp hy with hy | hy
    · exact topL y hy
    · rw [List.mem_singleton.mp hy]; exact top_of ints_pl) (by rw [List.length_append, List.length_map, ln]; decide)
  have e1 := m_made_sc hc z hs f1
  have e2 := m_is_sc hc z hs f1
  rw [long_scr.fine (by rw [ln]; decide)] at e1 e2
  have e3 := m_made_sc hc z hs f2
  rw [show chkX 2 1 1 [] 2000 (.tuple (longC.map tupI ++ [tupI [0]])) = some (("BadScript" : Str), (-1 : Int)) by
    simp only [chkX]
    rw [if_pos (by rw [List.length_append, List.length_map, ln]; decide)]] at e3
  simp only [orX] at e1 e3
  simp only [List.map_nil] at e1 e2 e3
  have mt : mulT (.p (.tuple [tupI [0], tupI [1]])) (.p (.int 1000)) st = .ok (.p (.tuple (longC.map tupI))) st := by
    have e : (List.replicate (Int.toNat 1000) [tupI [0], tupI [1]]).flatten = longC.map tupI := by
      unfold longC
      rw [List.map_flatten, List.map_replicate]
      rfl
    unfold mulT
    simp only
    rw [if_neg (by rintro (h | h); exact absurd h (by simp); exact absurd h (by decide)), if_pos ⟨by decide, by decide⟩, e]
  have ad := addT' (x := longC.map tupI) (y := [tupI [0]]) st (by rw [List.length_map, ln]; decide)
  have sh : SeqAt.shaped (.tuple (longC.map tupI)) = true := by
    have := shaped_tups longC
    simp only [SeqAt.shaped, PyData.canLay0, PyData.depth] at this ⊢
    exact this
  have ev : PyData.eqv (.tuple (longC.map tupI)) (.tuple (longC.map tupI)) = true := by decide +kernel
  have eq1 : eqD true (.p (.tuple (longC.map tupI))) (.p (.tuple (longC.map tupI))) st = .ok (.p (.bool false)) st := by
    generalize longC.map tupI = C at sh ev
    simp [eqD, eqG, dat, sh, ev]
  have rp := repr_p (st := st) (okR_why (ok_sc (.inl rfl)) (i := -1) (by omega) (by omega))
  have hh := hx_sc (c := "BadScript") (.inl rfl)
  generalize longC.map tupI = C at *
  unfold tupI at *
  simp only [List.map_cons, List.map_nil] at mt ad e3
  refine fnM_ret hc rfl ?_
  have hss : startE 1 [] = [(none : Option D)] := rfl
  rw [hss]
  generalize C ++ [PyData.tuple [.int 0]] = C2 at ad e3
  simp [b_law_long_right, mkTup, l0, l1, l2, l6, mt, e1, eq1, e2, isD_tf, ad, fHearF, e3, hh, tailD, rp, eq_strS, l3]
end MV

set_option Elab.async false
set_option linter.all false
set_option maxRecDepth 100000
set_option maxHeartbeats 8000000
namespace MV
open PySem
local instance : Tbs := ⟨[]⟩
section
variable {n a s w t d : Int} {st : Sto}
theorem script_of (hc : CS st) {x y v : PyData} {c : Str} {i : Int} (h : m_made_sworn [.p x, .p y] st = .exc c (.p (.int i)) st) : m_made_script [.p x, .p y, .p v] st = .exc c (.p (.int i)) st :=
  fnM_exc hc rfl (env := [some (.p x), some (.p y), some (.p v)]) (by simp [b_made_script, startE, h])
theorem is_script_of (hc : CS st) {x y v : PyData} {c : Str} {i : Int} (h : m_made_sworn [.p x, .p y] st = .exc c (.p (.int i)) st) (hr : c ∈ refL) : m_is_script [.p x, .p y, .p v] st = .ok (.p (.bool false)) st := by
  have e := script_of hc (v := v) h
  exact fnM_ret hc rfl (by simp [b_is_script, startE, e, hr])
theorem sworn_no (hc : CS st) (z : Sz n a s w t d) : m_made_sworn [.p (szD n a s w t d), .p .none] st = .exc "BadSworn" (.p (.int (-1))) st := by
  have e := m_made_sw hc z (x := .none) rfl (fun ds q => by cases q)
  exact e
end
def bvBody : SF := (cIf (fNot (fT (fFn 3 m_law_right (fCons (fV 6) (fCons (fV 2) (fCons (fFn 3 m_law_bent (fCons (fV 1) (fCons (fV 6) (fCons (fV 3) fNil)))) fNil)))))) (cRet (fK (.bool false))) cNx)
theorem law_true (ns : List Int) (hl : ns.length ≤ 63) : ∃ st', m_law [.sl (ns.map .int)] [] = .ok (.p (.bool true)) st' := by
  have l0 : 0 ≤ lineN := by decide
  have l1 : 1 ≤ lineN := by decide
  have l2 : 2 ≤ lineN := by decide
  have l3 : 3 ≤ lineN := by decide
  have l6 : 6 ≤ lineN := by decide
  obtain ⟨s0, e0, p0⟩ := pool_eq ns
  have z0 : Sz 2 1 1 2 1 1 := by constructor <;> decide
  have w0 : Swn 2 1 1 [] := ⟨.nil, fun _ h => (by cases h), by decide⟩
  have f0 : Fit (.tuple [tupI [0], tupI [0]]) := fit_of (fun y hy => by
    have : y = tupI [0] := by simpa using hy
    rw [this]; exact top_of ints_pl) (by simp)
  have g1 : m_made_script [.p (szD 2 1 1 2 1 1), .p (.tuple []), .p (.tuple [.tuple [.int 0], .tuple [.int 0]])] s0 = .exc "Gap" (.p (.int 1)) s0 := by
    have e := m_made_sc p0.cs z0 w0 f0
    rw [show chkX 2 1 1 [] 2000 (.tuple [tupI [0], tupI [0]]) = some (("Gap" : Str), (1 : Int)) by decide +kernel] at e
    exact e
  have hgap := hx_sc (c := "Gap") (.inr (.inr rfl))
  have rp0 := repr_p (st := s0) (okR_why (ok_sc (c := "Gap") (.inr (.inr rfl))) (i := 1) (by omega) (by omega))
  obtain ⟨n, a, s, w, t, d, s1, p1, z, hz⟩ := sizes_g p0 (x0 := some (.sl (ns.map .int)))
  obtain ⟨sw, s2, e2, p2, hs⟩ := sworn_g p1 z
  obtain ⟨m, s2', em, p2', m0, m1⟩ := draw_g (many := 21) p2 (by omega) (by omega)
  obtain ⟨css, s3, e3, p3, sc, kc⟩ := script_g p2' z hs (many := m) (by omega) (by omega)
  have fc : Fit (.tuple (css.map tupI)) := fit_of (fun y hy => by
    obtain ⟨c, _, rfl⟩ := List.mem_map.mp hy
    exact top_of ints_pl) (by rw [List.length_map]; omega)
  have r1 := law_rightS p3.cs z hs fc
  have r2 := law_rightS p3.cs z hs (x := .tuple []) (fit_of (fun y hy => by cases hy) (by simp))
  have rg := rng1_i (j := 5) s3 (by omega)
  obtain ⟨env4, s4, el, p4, a4, he⟩ := loop_rng (j := 4) (f := bvBody) (fun i env q => PS [] q ∧ ∃ l4, env = [some (.sl (ns.map .int)), some (.r 1), some (.p (.tuple (sw.map .int))), some (.p (.tuple (css.map tupI))), l4, none, some (.p (szD n a s w t d))]) (Int.toNat 5) 0 (fun i env q lo hi ⟨hq, l4, he⟩ => by
    subst he
    obtain ⟨x, q2, eb, hq2, fx⟩ := bent_s_g hq z sc.len (by omega)
    have er := law_rightS hq2.cs z hs fx
    refine ⟨[some (.sl (ns.map .int)), some (.r 1), some (.p (.tuple (sw.map .int))), some (.p (.tuple (css.map tupI))), oi i, none, some (.p (szD n a s w t d))], q2, ?_, hq2, _, rfl⟩
    generalize css.map tupI = C at eb ⊢
    generalize sw.map PyData.int = SW at er ⊢
    generalize ns.map PyData.int = NS
    simp [bvBody, oi, eb, er]) (env := [some (.sl (ns.map .int)), some (.r 1), some (.p (.tuple (sw.map .int))), some (.p (.tuple (css.map tupI))), none, none, some (.p (szD n a s w t d))]) (st := s3) ⟨p3, none, rfl⟩
  subst he
  obtain ⟨x, s5, e5, p5, hx⟩ := pick_g (ps := [.none, .tuple [.int n, .int a, .int s, .int w, .int t], .tuple [.int 41, .int a, .int s, .int w, .int t, .int d]]) p4 (by simp) (by simp)
  obtain ⟨tx, i, mx⟩ : topPl x = true ∧ ∃ i, madeX x = some (("BadSizes" : Str), i) := by
    simp only [List.mem_cons, List.not_mem_nil, or_false] at hx
    rcases hx with rfl | rfl | rfl
    · exact ⟨rfl, -1, rfl⟩
    · exact ⟨rfl, -1, rfl⟩
    · exact ⟨rfl, 0, rfl⟩
  have v1 := script_of p5.cs (v := .none) (m_made_sw_no (y := .none) p5.cs tx mx)
  have v2 := is_script_of p5.cs (v := .tuple []) (m_made_sw_no (y := .tuple []) p5.cs tx mx) rl3
  have v3 := script_of p5.cs (v := .none) (sworn_no p5.cs z)
  have v4 := is_script_of p5.cs (v := .tuple []) (sworn_no p5.cs z) rl1
  obtain ⟨u, s6, e6, p6, _, _⟩ := draw_g (many := 16) p5 (by omega) (by omega)
  have lr := long_right p6.cs
  have hxS : hearX hl_law_heard (Str.ofString "BadSizes") = some (Str.ofString "BadSizes") := by decide
  have hxW : hearX hl_law_heard (Str.ofString "BadSworn") = some (Str.ofString "BadSworn") := by decide
  have ix : ∀ (c x y : PyData) q, ixD (.p (.tuple [c, x, y])) (.p (.int 0)) q = .ok (.p c) q := fun _ _ _ _ => rfl
  have rp1 := repr_p (st := s5) (okR_why (x := "BadSworn") (i := -1) (by decide +kernel) (by omega) (by omega))
  have b1 : ∀ q, slD false (.p (szD n a s w t d)) none (some 5) q = .ok (.p (.tuple [.int n, .int a, .int s, .int w, .int t])) q := fun _ => rfl
  have b2 : ∀ q, slD false (.p (szD n a s w t d)) (some 1) none q = .ok (.p (.tuple [.int a, .int s, .int w, .int t, .int d])) q := fun _ => rfl
  have b3 : ∀ q, addD (.p (.tuple [.int 41])) (.p (.tuple [.int a, .int s, .int w, .int t, .int d])) q = .ok (.p (.tuple [.int 41, .int a, .int s, .int w, .int t, .int d])) q := fun _ => rfl
  have hss : startE 7 [D.sl (ns.map .int)] = [some (.sl (ns.map .int)), none, none, none, none, none, none] := rfl
  have b : b_law (startE 7 [.sl (ns.map .int)]) [] = .ret (.p (.bool true)) s6 := by
    rw [hss]
    unfold bvBody at el
    rw [show Int.toNat 5 = 5 from rfl] at el
    unfold szPart at hz
    generalize ns.map PyData.int = NS at *
    generalize css.map tupI = C at e3 el r1
    generalize sw.map PyData.int = SW at e2 e3 el r1 r2
    have st1 : ∀ f : SF, cSeq (cAsg (gN 1) (fFn 1 m_law_pool (fCons (fV 0) fNil)))
      (cSeq (cIf (fBT (eqD true) (fC (arg1 reprD) (fCons (fHearF true "told" hl_law_heard "another" 0 (fFn 3 m_made_script (fCons (fTup (fCons (fK (.int 2)) (fCons (fK (.int 1)) (fCons (fK (.int 1)) (fCons (fK (.int 2)) (fCons (fK (.int 1)) (fCons (fK (.int 1)) fNil))))))) (fCons (fTup fNil) (fCons (fTup (fCons (fTup (fCons (fK (.int 0)) fNil)) (fCons (fTup (fCons (fK (.int 0)) fNil)) fNil))) fNil))))) fNil)) (fC (arg1 reprD) (fCons (fTup (fCons (fK (.str "Gap")) (fCons (fK (.int 1)) (fCons (fK (.bool true)) fNil)))) fNil))) (cRet (fK (.bool false))) cNx) f)
      [some (.sl NS), none, none, none, none, none, none] [] = f [some (.sl NS), some (.r 1), none, none, none, none, none] s0 := fun f => by
        simp [e0, mkTup, l0, l1, l2, l3, l6, g1, fHearF, hgap, tailD, rp0, eq_strS]
    unfold b_law
    rw [st1, hz]
    by_cases cu : 0 < u
    · simp [e2, em, e3, r1, r2, mkTup, l0, rg, el, fSl, fNo, fSo, b1, b2, b3, l1, mkLst, l3, e5, fHearF, v1, v2, v3, v4, hxS, hxW, tailD, ix, eq_strS, isD_tf, rp1, e6, cu, lr]
    · simp [e2, em, e3, r1, r2, mkTup, l0, rg, el, fSl, fNo, fSo, b1, b2, b3, l1, mkLst, l3, e5, fHearF, v1, v2, v3, v4, hxS, hxW, tailD, ix, eq_strS, isD_tf, rp1, e6, cu, lr]
  unfold m_law fnM
  rw [b]
  exact ⟨[], rfl⟩
end MV


set_option Elab.async false
set_option linter.all false
set_option maxRecDepth 100000
set_option maxHeartbeats 4000000
namespace MV
open PySem PySem.Spec PyProof.Rows L2
def topS (i : Nat) : Stmt := PySem.Challenge.pw_movingpays_k07_scripts_judged.main.body.getD i (.Pass ⟨0, 0, 0, 0⟩)
section
variable [Tbs] {P : Program} {w : World} {K : PySem.W.Frag} {mg : Str → Option Value} {base : Heap}
abbrev s_law_pool : Stmt := topS 32
theorem sc_law_pool : FnScope ["script", "first", "size"] ["script"] (defScope s_law_pool) := ⟨rfl, rfl, rfl, by decide +kernel, rfl, by decide +kernel, by decide +kernel⟩
theorem g_law_pool {f : Addr} {fd : FuncData} (F : Fun K "_law_pool" "_law_pool" s_law_pool f fd) (n_len : mg "len" = none) (n_int : mg "int" = none) (n_list : mg "list" = none) : FnG P w K mg base 1 false f fd 1 ["script"] m_law_pool :=
  fn_G (k := 0) (nb := false) (body := b_law_pool) (keep := true) (n := 3) F sc_law_pool rfl rfl rfl (fun cdv hcd A outer s H E g tk =>
    (b_cons (c_set (i := 1) g.nd (e_if (t_cmp s_gt (e_bi s_len n_len (a_cons (e_v (i := 0)) a_nil)) e_int) (e_ty s_intOf n_int (a_cons (e_ix (e_v (i := 0)) e_int) a_nil)) e_int))
    (b_cons (c_set (i := 2) g.nd (e_if (t_cmp s_ge (e_v (i := 1)) e_int) (e_bin s_mulD e_int (e_v (i := 1))) (e_bin s_sub (e_un s_neg e_int) (e_bin s_mulD e_int (e_v (i := 1))))))
    (b_one (c_ret (e_ref (a_cons (e_if (t_cmp s_ge (e_v (i := 2)) (e_bin s_pow e_int e_int)) (e_v (i := 2)) e_int) (a_cons (e_bin s_add (e_bin s_mod (e_ty s_intOf n_int (a_cons (e_bin s_add (e_bin s_mulD (e_v (i := 2)) e_int) e_int) a_nil)) e_int) e_int) (a_cons (e_ty (s_listOf (m := true)) n_list (a_cons (e_sl (m := false) (e_v (i := 0)) (o_so e_int) o_no) a_nil)) a_nil)))))))))
theorem ok_law_pool {f : Addr} {fd : FuncData} (F : Fun K "_law_pool" "_law_pool" s_law_pool f fd) (hm : mg "_law_pool" = some (.ref f)) (n_len : mg "len" = none) (n_int : mg "int" = none) (n_list : mg "list" = none) : Has P w K mg base "_law_pool" 1 1 false m_law_pool :=
  has_of F hm (F.binds (ps := ["script"]) (fun _ _ _ _ _ _ us hl => match us, hl with | [_], _ => rfl)) (g_law_pool F n_len n_int n_list)
abbrev s_is_number : Stmt := topS 13
theorem sc_is_number : FnScope ["thing"] ["thing"] (defScope s_is_number) := ⟨rfl, rfl, rfl, by decide +kernel, rfl, by decide +kernel, by decide +kernel⟩
theorem g_is_number {f : Addr} {fd : FuncData} (F : Fun K "is_number" "is_number" s_is_number f fd) (n_isinstance : mg "isinstance" = none) (n_int : mg "int" = none) (n_bool : mg "bool" = none) : FnG P w K mg base 1 false f fd 1 ["thing"] m_is_number :=
  fn_G (k := 0) (nb := false) (body := b_is_number) (keep := false) (n := 1) F sc_is_number rfl rfl rfl (fun cdv hcd A outer s H E g tk =>
    (b_one (c_ret (e_and (e_isi (T := "int") n_isinstance n_int (e_v (i := 0))) (e_one (e_not (e_isi (T := "bool") n_isinstance n_bool (e_v (i := 0)))))))))
theorem ok_is_number {f : Addr} {fd : FuncData} (F : Fun K "is_number" "is_number" s_is_number f fd) (hm : mg "is_number" = some (.ref f)) (n_isinstance : mg "isinstance" = none) (n_int : mg "int" = none) (n_bool : mg "bool" = none) : Has P w K mg base "is_number" 1 1 false m_is_number :=
  has_of F hm (F.binds (ps := ["thing"]) (fun _ _ _ _ _ _ us hl => match us, hl with | [_], _ => rfl)) (g_is_number F n_isinstance n_int n_bool)
abbrev s_is_between : Stmt := topS 14
theorem sc_is_between : FnScope ["thing", "low", "high"] ["thing", "low", "high"] (defScope s_is_between) := ⟨rfl, rfl, rfl, by decide +kernel, rfl, by decide +kernel, by decide +kernel⟩
theorem g_is_between {f : Addr} {fd : FuncData} (F : Fun K "is_between" "is_between" s_is_between f fd) (h_is_number : Has P w K mg base "is_number" 1 1 false m_is_number) : FnG P w K mg base 2 false f fd 3 ["thing", "low", "high"] m_is_between :=
  fn_G (k := 1) (nb := false) (body := b_is_between) (keep := false) (n := 3) F sc_is_between rfl rfl rfl (fun cdv hcd A outer s H E g tk =>
    (b_one (c_ret (e_and (e_f h_is_number g (by decide) tk (a_cons (e_v (i := 0)) a_nil)) (e_one (e_chain s_le s_le (e_v (i := 1)) (e_v (i := 0)) (e_v (i := 2))))))))
theorem ok_is_between {f : Addr} {fd : FuncData} (F : Fun K "is_between" "is_between" s_is_between f fd) (hm : mg "is_between" = some (.ref f)) (h_is_number : Has P w K mg base "is_number" 1 1 false m_is_number) : Has P w K mg base "is_between" 3 2 false m_is_between :=
  has_of F hm (F.binds (ps := ["thing", "low", "high"]) (fun _ _ _ _ _ _ us hl => match us, hl with | [_, _, _], _ => rfl)) (g_is_between F h_is_number)
abbrev s_check_sworn : Stmt := topS 21
theorem sc_check_sworn : FnScope ["sizes", "thing", "last", "at", "wanted"] ["sizes", "thing"] (defScope s_check_sworn) := ⟨rfl, rfl, rfl, by decide +kernel, rfl, by decide +kernel, by decide +kernel⟩
theorem g_check_sworn {f : Addr} {fd : FuncData} (F : Fun K "check_sworn" "check_sworn" s_check_sworn f fd) (n_isinstance : mg "isinstance" = none) (n_tuple : mg "tuple" = none) (x_BadSworn : IsEx K mg "BadSworn") (n_range : mg "range" = none) (n_len : mg "len" = none) (h_is_between : Has P w K mg base "is_between" 3 2 false m_is_between) (x_FewRecords : IsEx K mg "FewRecords") : FnG P w K mg base 3 false f fd 2 ["sizes", "thing"] m_check_sworn :=
  fn_G (k := 2) (nb := false) (body := b_check_sworn) (keep := false) (n := 5) F sc_check_sworn rfl rfl rfl (fun cdv hcd A outer s H E g tk =>
    (b_cons (c_if (t_not (t_v (e_isi (T := "tuple") n_isinstance n_tuple (e_v (i := 1))))) (b_one (c_raise g tk x_BadSworn (a_cons (e_un s_neg e_int) a_nil))) b_nil)
    (b_cons (c_set (i := 2) g.nd (e_un s_neg e_int))
    (b_cons (c_for (ws := [3]) g (i_rng1 n_range (a_cons (e_bi s_len n_len (a_cons (e_v (i := 1)) a_nil)) a_nil)) (g_n (i := 3) g.nd) (b_cons (c_if (t_not (t_v (e_f h_is_between g (by decide) tk (a_cons (e_ix (e_v (i := 1)) (e_v (i := 3))) (a_cons (e_bin s_add (e_v (i := 2)) e_int) (a_cons (e_bin s_sub (e_ix (e_v (i := 0)) e_int) e_int) a_nil)))))) (b_one (c_raise g tk x_BadSworn (a_cons (e_v (i := 3)) a_nil))) b_nil)
    (b_one (c_set (i := 2) g.nd (e_ix (e_v (i := 1)) (e_v (i := 3)))))))
    (b_cons (c_set (i := 4) g.nd (e_bin s_mulD (e_ix (e_v (i := 0)) e_int) (e_bin s_add (e_ix (e_v (i := 0)) e_int) e_int)))
    (b_one (c_if (t_cmp s_gt (e_v (i := 4)) (e_bin s_sub (e_ix (e_v (i := 0)) e_int) (e_bi s_len n_len (a_cons (e_v (i := 1)) a_nil)))) (b_one (c_raise g tk x_FewRecords (a_cons (e_bin s_add (e_bin s_sub (e_v (i := 4)) (e_ix (e_v (i := 0)) e_int)) (e_bi s_len n_len (a_cons (e_v (i := 1)) a_nil))) a_nil))) b_nil)))))))
theorem ok_check_sworn {f : Addr} {fd : FuncData} (F : Fun K "check_sworn" "check_sworn" s_check_sworn f fd) (hm : mg "check_sworn" = some (.ref f)) (n_isinstance : mg "isinstance" = none) (n_tuple : mg "tuple" = none) (x_BadSworn : IsEx K mg "BadSworn") (n_range : mg "range" = none) (n_len : mg "len" = none) (h_is_between : Has P w K mg base "is_between" 3 2 false m_is_between) (x_FewRecords : IsEx K mg "FewRecords") : Has P w K mg base "check_sworn" 2 3 false m_check_sworn :=
  has_of F hm (F.binds (ps := ["sizes", "thing"]) (fun _ _ _ _ _ _ us hl => match us, hl with | [_, _], _ => rfl)) (g_check_sworn F n_isinstance n_tuple x_BadSworn n_range n_len h_is_between x_FewRecords)
abbrev s_is_tuple_of : Stmt := topS 15
theorem sc_is_tuple_of : FnScope ["thing", "low", "high"] ["thing", "low", "high"] (defScope s_is_tuple_of) := ⟨rfl, rfl, rfl, by decide +kernel, rfl, by decide +kernel, by decide +kernel⟩
theorem g_is_tuple_of {f : Addr} {fd : FuncData} (F : Fun K "is_tuple_of" "is_tuple_of" s_is_tuple_of f fd) (n_isinstance : mg "isinstance" = none) (n_tuple : mg "tuple" = none) (n_len : mg "len" = none) : FnG P w K mg base 1 false f fd 3 ["thing", "low", "high"] m_is_tuple_of :=
  fn_G (k := 0) (nb := false) (body := b_is_tuple_of) (keep := false) (n := 3) F sc_is_tuple_of rfl rfl rfl (fun cdv hcd A outer s H E g tk =>
    (b_one (c_ret (e_and (e_isi (T := "tuple") n_isinstance n_tuple (e_v (i := 0))) (e_one (e_chain s_le s_le (e_v (i := 1)) (e_bi s_len n_len (a_cons (e_v (i := 0)) a_nil)) (e_v (i := 2))))))))
theorem ok_is_tuple_of {f : Addr} {fd : FuncData} (F : Fun K "is_tuple_of" "is_tuple_of" s_is_tuple_of f fd) (hm : mg "is_tuple_of" = some (.ref f)) (n_isinstance : mg "isinstance" = none) (n_tuple : mg "tuple" = none) (n_len : mg "len" = none) : Has P w K mg base "is_tuple_of" 3 1 false m_is_tuple_of :=
  has_of F hm (F.binds (ps := ["thing", "low", "high"]) (fun _ _ _ _ _ _ us hl => match us, hl with | [_, _, _], _ => rfl)) (g_is_tuple_of F n_isinstance n_tuple n_len)
abbrev s_drawn_of : Stmt := topS 19
theorem sc_drawn_of : FnScope ["sizes"] ["sizes"] (defScope s_drawn_of) := ⟨rfl, rfl, rfl, by decide +kernel, rfl, by decide +kernel, by decide +kernel⟩
theorem g_drawn_of {f : Addr} {fd : FuncData} (F : Fun K "drawn_of" "drawn_of" s_drawn_of f fd) : FnG P w K mg base 1 false f fd 1 ["sizes"] m_drawn_of :=
  fn_G (k := 0) (nb := false) (body := b_drawn_of) (keep := false) (n := 1) F sc_drawn_of rfl rfl rfl (fun cdv hcd A outer s H E g tk =>
    (b_one (c_ret (e_bin s_mulD (e_ix (e_v (i := 0)) e_int) (e_ix (e_v (i := 0)) e_int)))))
theorem ok_drawn_of {f : Addr} {fd : FuncData} (F : Fun K "drawn_of" "drawn_of" s_drawn_of f fd) (hm : mg "drawn_of" = some (.ref f)) : Has P w K mg base "drawn_of" 1 1 false m_drawn_of :=
  has_of F hm (F.binds (ps := ["sizes"]) (fun _ _ _ _ _ _ us hl => match us, hl with | [_], _ => rfl)) (g_drawn_of F)
abbrev s_blocks_of : Stmt := topS 18
theorem sc_blocks_of : FnScope ["sizes"] ["sizes"] (defScope s_blocks_of) := ⟨rfl, rfl, rfl, by decide +kernel, rfl, by decide +kernel, by decide +kernel⟩
theorem g_blocks_of {f : Addr} {fd : FuncData} (F : Fun K "blocks_of" "blocks_of" s_blocks_of f fd) : FnG P w K mg base 1 false f fd 1 ["sizes"] m_blocks_of :=
  fn_G (k := 0) (nb := false) (body := b_blocks_of) (keep := false) (n := 1) F sc_blocks_of rfl rfl rfl (fun cdv hcd A outer s H E g tk =>
    (b_one (c_ret (e_bin s_add (e_bin s_mulD (e_ix (e_v (i := 0)) e_int) (e_ix (e_v (i := 0)) e_int)) (e_ix (e_v (i := 0)) e_int)))))
theorem ok_blocks_of {f : Addr} {fd : FuncData} (F : Fun K "blocks_of" "blocks_of" s_blocks_of f fd) (hm : mg "blocks_of" = some (.ref f)) : Has P w K mg base "blocks_of" 1 1 false m_blocks_of :=
  has_of F hm (F.binds (ps := ["sizes"]) (fun _ _ _ _ _ _ us hl => match us, hl with | [_], _ => rfl)) (g_blocks_of F)
abbrev s_made_sizes : Stmt := topS 20
theorem sc_made_sizes : FnScope ["thing", "at", "wanted"] ["thing"] (defScope s_made_sizes) := ⟨rfl, rfl, rfl, by decide +kernel, rfl, by decide +kernel, by decide +kernel⟩
theorem g_made_sizes {f : Addr} {fd : FuncData} (F : Fun K "made_sizes" "made_sizes" s_made_sizes f fd) (h_is_tuple_of : Has P w K mg base "is_tuple_of" 3 1 false m_is_tuple_of) (x_BadSizes : IsEx K mg "BadSizes") (n_range : mg "range" = none) (h_is_between : Has P w K mg base "is_between" 3 2 false m_is_between) (c_BOUNDS : IsC K mg "BOUNDS" k_BOUNDS) (h_drawn_of : Has P w K mg base "drawn_of" 1 1 false m_drawn_of) (x_FewSpares : IsEx K mg "FewSpares") (x_FewRecords : IsEx K mg "FewRecords") (h_blocks_of : Has P w K mg base "blocks_of" 1 1 false m_blocks_of) (c_MOST_BLOCKS : IsC K mg "MOST_BLOCKS" k_MOST_BLOCKS) (x_TooMany : IsEx K mg "TooMany") : FnG P w K mg base 3 false f fd 1 ["thing"] m_made_sizes :=
  fn_G (k := 2) (nb := false) (body := b_made_sizes) (keep := false) (n := 3) F sc_made_sizes rfl rfl rfl (fun cdv hcd A outer s H E g tk =>
    (b_cons (c_if (t_not (t_v (e_f h_is_tuple_of g (by decide) tk (a_cons (e_v (i := 0)) (a_cons e_int (a_cons e_int a_nil)))))) (b_one (c_raise g tk x_BadSizes (a_cons (e_un s_neg e_int) a_nil))) b_nil)
    (b_cons (c_for (ws := [1]) g (i_rng1 n_range (a_cons e_int a_nil)) (g_n (i := 1) g.nd) (b_one (c_if (t_not (t_v (e_f h_is_between g (by decide) tk (a_cons (e_ix (e_v (i := 0)) (e_v (i := 1))) (a_cons (e_ix (e_ix (e_glc c_BOUNDS) (e_v (i := 1))) e_int) (a_cons (e_ix (e_ix (e_glc c_BOUNDS) (e_v (i := 1))) e_int) a_nil)))))) (b_one (c_raise g tk x_BadSizes (a_cons (e_v (i := 1)) a_nil))) b_nil)))
    (b_cons (c_if (t_cmp s_gt (e_f h_drawn_of g (by decide) tk (a_cons (e_v (i := 0)) a_nil)) (e_ix (e_v (i := 0)) e_int)) (b_one (c_raise g tk x_FewSpares (a_cons (e_bin s_sub (e_f h_drawn_of g (by decide) tk (a_cons (e_v (i := 0)) a_nil)) (e_ix (e_v (i := 0)) e_int)) a_nil))) b_nil)
    (b_cons (c_set (i := 2) g.nd (e_bin s_mulD (e_ix (e_v (i := 0)) e_int) (e_bin s_add (e_ix (e_v (i := 0)) e_int) e_int)))
    (b_cons (c_if (t_cmp s_gt (e_v (i := 2)) (e_ix (e_v (i := 0)) e_int)) (b_one (c_raise g tk x_FewRecords (a_cons (e_bin s_sub (e_v (i := 2)) (e_ix (e_v (i := 0)) e_int)) a_nil))) b_nil)
    (b_cons (c_if (t_cmp s_gt (e_f h_blocks_of g (by decide) tk (a_cons (e_v (i := 0)) a_nil)) (e_glc c_MOST_BLOCKS)) (b_one (c_raise g tk x_TooMany (a_cons (e_f h_blocks_of g (by decide) tk (a_cons (e_v (i := 0)) a_nil)) a_nil))) b_nil)
    (b_one (c_ret (e_v (i := 0)))))))))))
theorem ok_made_sizes {f : Addr} {fd : FuncData} (F : Fun K "made_sizes" "made_sizes" s_made_sizes f fd) (hm : mg "made_sizes" = some (.ref f)) (h_is_tuple_of : Has P w K mg base "is_tuple_of" 3 1 false m_is_tuple_of) (x_BadSizes : IsEx K mg "BadSizes") (n_range : mg "range" = none) (h_is_between : Has P w K mg base "is_between" 3 2 false m_is_between) (c_BOUNDS : IsC K mg "BOUNDS" k_BOUNDS) (h_drawn_of : Has P w K mg base "drawn_of" 1 1 false m_drawn_of) (x_FewSpares : IsEx K mg "FewSpares") (x_FewRecords : IsEx K mg "FewRecords") (h_blocks_of : Has P w K mg base "blocks_of" 1 1 false m_blocks_of) (c_MOST_BLOCKS : IsC K mg "MOST_BLOCKS" k_MOST_BLOCKS) (x_TooMany : IsEx K mg "TooMany") : Has P w K mg base "made_sizes" 1 3 false m_made_sizes :=
  has_of F hm (F.binds (ps := ["thing"]) (fun _ _ _ _ _ _ us hl => match us, hl with | [_], _ => rfl)) (g_made_sizes F h_is_tuple_of x_BadSizes n_range h_is_between c_BOUNDS h_drawn_of x_FewSpares x_FewRecords h_blocks_of c_MOST_BLOCKS x_TooMany)
abbrev s_made_sworn : Stmt := topS 22
theorem sc_made_sworn : FnScope ["sizes", "thing"] ["sizes", "thing"] (defScope s_made_sworn) := ⟨rfl, rfl, rfl, by decide +kernel, rfl, by decide +kernel, by decide +kernel⟩
theorem g_made_sworn {f : Addr} {fd : FuncData} (F : Fun K "made_sworn" "made_sworn" s_made_sworn f fd) (h_check_sworn : Has P w K mg base "check_sworn" 2 3 false m_check_sworn) (h_made_sizes : Has P w K mg base "made_sizes" 1 3 false m_made_sizes) : FnG P w K mg base 4 false f fd 2 ["sizes", "thing"] m_made_sworn :=
  fn_G (k := 3) (nb := false) (body := b_made_sworn) (keep := false) (n := 2) F sc_made_sworn rfl rfl rfl (fun cdv hcd A outer s H E g tk =>
    (b_cons (c_expr (e_f h_check_sworn g (by decide) tk (a_cons (e_f h_made_sizes g (by decide) tk (a_cons (e_v (i := 0)) a_nil)) (a_cons (e_v (i := 1)) a_nil))))
    (b_one (c_ret (e_v (i := 1))))))
theorem ok_made_sworn {f : Addr} {fd : FuncData} (F : Fun K "made_sworn" "made_sworn" s_made_sworn f fd) (hm : mg "made_sworn" = some (.ref f)) (h_check_sworn : Has P w K mg base "check_sworn" 2 3 false m_check_sworn) (h_made_sizes : Has P w K mg base "made_sizes" 1 3 false m_made_sizes) : Has P w K mg base "made_sworn" 2 4 false m_made_sworn :=
  has_of F hm (F.binds (ps := ["sizes", "thing"]) (fun _ _ _ _ _ _ us hl => match us, hl with | [_, _], _ => rfl)) (g_made_sworn F h_check_sworn h_made_sizes)
abbrev s_is_rising : Stmt := topS 16
theorem sc_is_rising : FnScope ["thing", "below", "last", "number"] ["thing", "below"] (defScope s_is_rising) := ⟨rfl, rfl, rfl, by decide +kernel, rfl, by decide +kernel, by decide +kernel⟩
theorem g_is_rising {f : Addr} {fd : FuncData} (F : Fun K "is_rising" "is_rising" s_is_rising f fd) (n_isinstance : mg "isinstance" = none) (n_tuple : mg "tuple" = none) (h_is_between : Has P w K mg base "is_between" 3 2 false m_is_between) : FnG P w K mg base 3 false f fd 2 ["thing", "below"] m_is_rising :=
  fn_G (k := 2) (nb := false) (body := b_is_rising) (keep := false) (n := 4) F sc_is_rising rfl rfl rfl (fun cdv hcd A outer s H E g tk =>
    (b_cons (c_if (t_not (t_v (e_isi (T := "tuple") n_isinstance n_tuple (e_v (i := 0))))) (b_one (c_ret e_bl)) b_nil)
    (b_cons (c_set (i := 2) g.nd (e_un s_neg e_int))
    (b_cons (c_for (ws := [3]) g (i_seq (e_v (i := 0))) (g_n (i := 3) g.nd) (b_cons (c_if (t_not (t_v (e_f h_is_between g (by decide) tk (a_cons (e_v (i := 3)) (a_cons (e_bin s_add (e_v (i := 2)) e_int) (a_cons (e_bin s_sub (e_v (i := 1)) e_int) a_nil)))))) (b_one (c_ret e_bl)) b_nil)
    (b_one (c_set (i := 2) g.nd (e_v (i := 3))))))
    (b_one (c_ret e_bl))))))
theorem ok_is_rising {f : Addr} {fd : FuncData} (F : Fun K "is_rising" "is_rising" s_is_rising f fd) (hm : mg "is_rising" = some (.ref f)) (n_isinstance : mg "isinstance" = none) (n_tuple : mg "tuple" = none) (h_is_between : Has P w K mg base "is_between" 3 2 false m_is_between) : Has P w K mg base "is_rising" 2 3 false m_is_rising :=
  has_of F hm (F.binds (ps := ["thing", "below"]) (fun _ _ _ _ _ _ us hl => match us, hl with | [_, _], _ => rfl)) (g_is_rising F n_isinstance n_tuple h_is_between)
abbrev s_is_commit_form : Stmt := topS 25
theorem sc_is_commit_form : FnScope ["sizes", "thing"] ["sizes", "thing"] (defScope s_is_commit_form) := ⟨rfl, rfl, rfl, by decide +kernel, rfl, by decide +kernel, by decide +kernel⟩
theorem g_is_commit_form {f : Addr} {fd : FuncData} (F : Fun K "is_commit_form" "is_commit_form" s_is_commit_form f fd) (h_is_tuple_of : Has P w K mg base "is_tuple_of" 3 1 false m_is_tuple_of) (h_is_rising : Has P w K mg base "is_rising" 2 3 false m_is_rising) : FnG P w K mg base 4 false f fd 2 ["sizes", "thing"] m_is_commit_form :=
  fn_G (k := 3) (nb := false) (body := b_is_commit_form) (keep := false) (n := 2) F sc_is_commit_form rfl rfl rfl (fun cdv hcd A outer s H E g tk =>
    (b_one (c_ret (e_and (e_f h_is_tuple_of g (by decide) tk (a_cons (e_v (i := 1)) (a_cons (e_ix (e_v (i := 0)) e_int) (a_cons (e_ix (e_v (i := 0)) e_int) a_nil)))) (e_one (e_f h_is_rising g (by decide) tk (a_cons (e_v (i := 1)) (a_cons (e_ix (e_v (i := 0)) e_int) a_nil))))))))
theorem ok_is_commit_form {f : Addr} {fd : FuncData} (F : Fun K "is_commit_form" "is_commit_form" s_is_commit_form f fd) (hm : mg "is_commit_form" = some (.ref f)) (h_is_tuple_of : Has P w K mg base "is_tuple_of" 3 1 false m_is_tuple_of) (h_is_rising : Has P w K mg base "is_rising" 2 3 false m_is_rising) : Has P w K mg base "is_commit_form" 2 4 false m_is_commit_form :=
  has_of F hm (F.binds (ps := ["sizes", "thing"]) (fun _ _ _ _ _ _ us hl => match us, hl with | [_, _], _ => rfl)) (g_is_commit_form F h_is_tuple_of h_is_rising)
abbrev s_first_of : Stmt := topS 26
theorem sc_first_of : FnScope ["records", "others", "record"] ["records", "others"] (defScope s_first_of) := ⟨rfl, rfl, rfl, by decide +kernel, rfl, by decide +kernel, by decide +kernel⟩
theorem g_first_of {f : Addr} {fd : FuncData} (F : Fun K "first_of" "first_of" s_first_of f fd) : FnG P w K mg base 1 false f fd 2 ["records", "others"] m_first_of :=
  fn_G (k := 0) (nb := false) (body := b_first_of) (keep := false) (n := 3) F sc_first_of rfl rfl rfl (fun cdv hcd A outer s H E g tk =>
    (b_cons (c_for (ws := [2]) g (i_seq (e_v (i := 0))) (g_n (i := 2) g.nd) (b_one (c_if (t_cmp (s_inS g.u66) (e_v (i := 2)) (e_v (i := 1))) (b_one (c_ret (e_v (i := 2)))) b_nil)))
    (b_one (c_ret e_non))))
theorem ok_first_of {f : Addr} {fd : FuncData} (F : Fun K "first_of" "first_of" s_first_of f fd) (hm : mg "first_of" = some (.ref f)) : Has P w K mg base "first_of" 2 1 false m_first_of :=
  has_of F hm (F.binds (ps := ["records", "others"]) (fun _ _ _ _ _ _ us hl => match us, hl with | [_, _], _ => rfl)) (g_first_of F)
abbrev s_resting : Stmt := topS 27
theorem sc_resting : FnScope ["last", "records", "record"] ["last"] (defScope s_resting) := ⟨rfl, rfl, rfl, by decide +kernel, rfl, by decide +kernel, by decide +kernel⟩
theorem g_resting {f : Addr} {fd : FuncData} (F : Fun K "resting" "resting" s_resting f fd) : FnG P w K mg base 1 false f fd 1 ["last"] m_resting :=
  fn_G (k := 0) (nb := false) (body := b_resting) (keep := false) (n := 3) F sc_resting rfl rfl rfl (fun cdv hcd A outer s H E g tk =>
    (b_one (c_ret (e_lc2 (m := false) (own := [(("records" : Str), 1), (("record" : Str), 2)]) (ws := [1]) (vs1 := [2]) (ws1 := [2]) g (i_seq (e_v (i := 0))) (blkOk_by (N := ["last", "records", "record"]) (sc := defScope s_resting) (own := [(("records" : Str), 1), (("record" : Str), 2)]) (by decide +kernel)) (by decide) (by decide) (by decide) (fun _ _ _ _ _ => (g_n (i := 1) (g.blk _ _ _ _ _).nd)) (fun _ _ _ _ _ => i_yes) (fun _ _ _ _ _ => (i_seq (e_v (i := 1)))) (fun _ _ _ _ _ => (g_n (i := 2) (g.blk _ _ _ _ _).nd)) (fun _ _ _ _ _ => i_yes) (fun _ _ _ _ _ => (e_v (i := 2)))))))
theorem ok_resting {f : Addr} {fd : FuncData} (F : Fun K "resting" "resting" s_resting f fd) (hm : mg "resting" = some (.ref f)) : Has P w K mg base "resting" 1 1 false m_resting :=
  has_of F hm (F.binds (ps := ["last"]) (fun _ _ _ _ _ _ us hl => match us, hl with | [_], _ => rfl)) (g_resting F)
abbrev s_check_script : Stmt := topS 28
theorem sc_check_script : FnScope ["sizes", "sworn", "thing", "most", "at"] ["sizes", "sworn", "thing", "most"] (defScope s_check_script) := ⟨rfl, rfl, rfl, by decide +kernel, rfl, by decide +kernel, by decide +kernel⟩
theorem g_check_script {f : Addr} {fd : FuncData} (F : Fun K "check_script" "check_script" s_check_script f fd) (h_is_tuple_of : Has P w K mg base "is_tuple_of" 3 1 false m_is_tuple_of) (x_BadScript : IsEx K mg "BadScript") (n_range : mg "range" = none) (n_len : mg "len" = none) (h_is_commit_form : Has P w K mg base "is_commit_form" 2 4 false m_is_commit_form) (h_first_of : Has P w K mg base "first_of" 2 1 false m_first_of) (x_Sworn : IsEx K mg "Sworn") (h_resting : Has P w K mg base "resting" 1 1 false m_resting) (n_max : mg "max" = none) (x_Gap : IsEx K mg "Gap") : FnG P w K mg base 5 false f fd 4 ["sizes", "sworn", "thing", "most"] m_check_script :=
  fn_G (k := 4) (nb := false) (body := b_check_script) (keep := false) (n := 5) F sc_check_script rfl rfl rfl (fun cdv hcd A outer s H E g tk =>
    (b_cons (c_if (t_not (t_v (e_f h_is_tuple_of g (by decide) tk (a_cons (e_v (i := 2)) (a_cons e_int (a_cons (e_v (i := 3)) a_nil)))))) (b_one (c_raise g tk x_BadScript (a_cons (e_un s_neg e_int) a_nil))) b_nil)
    (b_cons (c_for (ws := [4]) g (i_rng1 n_range (a_cons (e_bi s_len n_len (a_cons (e_v (i := 2)) a_nil)) a_nil)) (g_n (i := 4) g.nd) (b_one (c_if (t_not (t_v (e_f h_is_commit_form g (by decide) tk (a_cons (e_v (i := 0)) (a_cons (e_ix (e_v (i := 2)) (e_v (i := 4))) a_nil))))) (b_one (c_raise g tk x_BadScript (a_cons (e_v (i := 4)) a_nil))) b_nil)))
    (b_cons (c_for (ws := [4]) g (i_rng1 n_range (a_cons (e_bi s_len n_len (a_cons (e_v (i := 2)) a_nil)) a_nil)) (g_n (i := 4) g.nd) (b_one (c_if (t_cmp s_isn (e_f h_first_of g (by decide) tk (a_cons (e_ix (e_v (i := 2)) (e_v (i := 4))) (a_cons (e_v (i := 1)) a_nil))) e_non) (b_one (c_raise g tk x_Sworn (a_cons (e_v (i := 4)) a_nil))) b_nil)))
    (b_one (c_for (ws := [4]) g (i_rng1 n_range (a_cons (e_bi s_len n_len (a_cons (e_v (i := 2)) a_nil)) a_nil)) (g_n (i := 4) g.nd) (b_one (c_if (t_cmp s_isn (e_f h_first_of g (by decide) tk (a_cons (e_ix (e_v (i := 2)) (e_v (i := 4))) (a_cons (e_f h_resting g (by decide) tk (a_cons (e_sl (m := false) (e_v (i := 2)) (o_so (e_bi (s_max2 g.calm) n_max (a_cons e_int (a_cons (e_bin s_sub (e_v (i := 4)) (e_ix (e_v (i := 0)) e_int)) a_nil)))) (o_so (e_v (i := 4)))) a_nil)) a_nil))) e_non) (b_one (c_raise g tk x_Gap (a_cons (e_v (i := 4)) a_nil))) b_nil))))))))
theorem ok_check_script {f : Addr} {fd : FuncData} (F : Fun K "check_script" "check_script" s_check_script f fd) (hm : mg "check_script" = some (.ref f)) (h_is_tuple_of : Has P w K mg base "is_tuple_of" 3 1 false m_is_tuple_of) (x_BadScript : IsEx K mg "BadScript") (n_range : mg "range" = none) (n_len : mg "len" = none) (h_is_commit_form : Has P w K mg base "is_commit_form" 2 4 false m_is_commit_form) (h_first_of : Has P w K mg base "first_of" 2 1 false m_first_of) (x_Sworn : IsEx K mg "Sworn") (h_resting : Has P w K mg base "resting" 1 1 false m_resting) (n_max : mg "max" = none) (x_Gap : IsEx K mg "Gap") : Has P w K mg base "check_script" 4 5 false m_check_script :=
  has_of F hm (F.binds (ps := ["sizes", "sworn", "thing", "most"]) (fun _ _ _ _ _ _ us hl => match us, hl with | [_, _, _, _], _ => rfl)) (g_check_script F h_is_tuple_of x_BadScript n_range n_len h_is_commit_form h_first_of x_Sworn h_resting n_max x_Gap)
abbrev s_made_script : Stmt := topS 29
theorem sc_made_script : FnScope ["sizes", "sworn", "thing"] ["sizes", "sworn", "thing"] (defScope s_made_script) := ⟨rfl, rfl, rfl, by decide +kernel, rfl, by decide +kernel, by decide +kernel⟩
theorem g_made_script {f : Addr} {fd : FuncData} (F : Fun K "made_script" "made_script" s_made_script f fd) (h_made_sworn : Has P w K mg base "made_sworn" 2 4 false m_made_sworn) (h_check_script : Has P w K mg base "check_script" 4 5 false m_check_script) (c_MOST_COMMITS : IsC K mg "MOST_COMMITS" k_MOST_COMMITS) : FnG P w K mg base 6 false f fd 3 ["sizes", "sworn", "thing"] m_made_script :=
  fn_G (k := 5) (nb := false) (body := b_made_script) (keep := false) (n := 3) F sc_made_script rfl rfl rfl (fun cdv hcd A outer s H E g tk =>
    (b_cons (c_expr (e_f h_made_sworn g (by decide) tk (a_cons (e_v (i := 0)) (a_cons (e_v (i := 1)) a_nil))))
    (b_cons (c_expr (e_f h_check_script g (by decide) tk (a_cons (e_v (i := 0)) (a_cons (e_v (i := 1)) (a_cons (e_v (i := 2)) (a_cons (e_glc c_MOST_COMMITS) a_nil))))))
    (b_one (c_ret (e_v (i := 2)))))))
theorem ok_made_script {f : Addr} {fd : FuncData} (F : Fun K "made_script" "made_script" s_made_script f fd) (hm : mg "made_script" = some (.ref f)) (h_made_sworn : Has P w K mg base "made_sworn" 2 4 false m_made_sworn) (h_check_script : Has P w K mg base "check_script" 4 5 false m_check_script) (c_MOST_COMMITS : IsC K mg "MOST_COMMITS" k_MOST_COMMITS) : Has P w K mg base "made_script" 3 6 false m_made_script :=
  has_of F hm (F.binds (ps := ["sizes", "sworn", "thing"]) (fun _ _ _ _ _ _ us hl => match us, hl with | [_, _, _], _ => rfl)) (g_made_script F h_made_sworn h_check_script c_MOST_COMMITS)
abbrev s_law_draw : Stmt := topS 33
theorem sc_law_draw : FnScope ["pool", "many", "cell", "size", "found"] ["pool", "many"] (defScope s_law_draw) := ⟨rfl, rfl, rfl, by decide +kernel, rfl, by decide +kernel, by decide +kernel⟩
theorem g_law_draw {f : Addr} {fd : FuncData} (F : Fun K "_law_draw" "_law_draw" s_law_draw f fd) (n_int : mg "int" = none) : FnG P w K mg base 1 false f fd 2 ["pool", "many"] m_law_draw :=
  fn_G (k := 0) (nb := false) (body := b_law_draw) (keep := false) (n := 5) F sc_law_draw rfl rfl rfl (fun cdv hcd A outer s H E g tk =>
    (b_cons (c_if (PW.pt (w_and (t_cmp (s_eq g.u64) (e_ix (e_v (i := 0)) e_int) e_int) (w_and1 (t_cmp (s_ne g.u64) (e_ix (e_v (i := 0)) e_int) (e_lst a_nil))))) (b_cons (c_set (i := 2) g.nd (e_ty s_intOf n_int (a_cons (e_m PySem.F.plainAttrs_list PySem.F.slot_list_pop PySem.F.type_list_pop s_popAt (e_ix (e_v (i := 0)) e_int) (a_cons e_int a_nil)) a_nil)))
    (b_cons (c_set (i := 3) g.nd (e_if (t_cmp s_ge (e_v (i := 2)) e_int) (e_bin s_mulD e_int (e_v (i := 2))) (e_bin s_sub (e_un s_neg e_int) (e_bin s_mulD e_int (e_v (i := 2))))))
    (b_cons (c_put (e_if (t_cmp s_ge (e_v (i := 3)) (e_bin s_pow e_int e_int)) (e_v (i := 3)) e_int) (e_v (i := 0)) e_int)
    (b_one (c_put (e_bin s_add (e_bin s_mod (e_ty s_intOf n_int (a_cons (e_bin s_add (e_ix (e_v (i := 0)) e_int) (e_bin s_mulD (e_v (i := 3)) e_int)) a_nil)) e_int) e_int) (e_v (i := 0)) e_int))))) b_nil)
    (b_cons (c_if (t_cmp s_gt (e_ix (e_v (i := 0)) e_int) e_int) (b_cons (c_set (i := 4) g.nd (e_bin s_mod (e_ty s_intOf n_int (a_cons (e_ix (e_v (i := 0)) e_int) a_nil)) (e_v (i := 1))))
    (b_cons (c_put (e_bin s_div (e_ix (e_v (i := 0)) e_int) (e_v (i := 1))) (e_v (i := 0)) e_int)
    (b_one (c_ret (e_v (i := 4)))))) b_nil)
    (b_cons (c_put (e_bin s_mod (e_ty s_intOf n_int (a_cons (e_bin s_add (e_bin s_mulD (e_ix (e_v (i := 0)) e_int) e_int) e_int) a_nil)) e_int) (e_v (i := 0)) e_int)
    (b_one (c_ret (e_bin s_mod (e_bin s_div (e_bin s_mod (e_ty s_intOf n_int (a_cons (e_bin s_mulD (e_ix (e_v (i := 0)) e_int) (e_ix (e_v (i := 0)) e_int)) a_nil)) e_int) e_int) (e_v (i := 1)))))))))
theorem ok_law_draw {f : Addr} {fd : FuncData} (F : Fun K "_law_draw" "_law_draw" s_law_draw f fd) (hm : mg "_law_draw" = some (.ref f)) (n_int : mg "int" = none) : Has P w K mg base "_law_draw" 2 1 false m_law_draw :=
  has_of F hm (F.binds (ps := ["pool", "many"]) (fun _ _ _ _ _ _ us hl => match us, hl with | [_, _], _ => rfl)) (g_law_draw F n_int)
abbrev s_law_stand_rims : Stmt := topS 37
theorem sc_law_stand_rims : FnScope ["pool", "lives", "way", "more", "t", "d", "a"] ["pool", "lives"] (defScope s_law_stand_rims) := ⟨rfl, rfl, rfl, by decide +kernel, rfl, by decide +kernel, by decide +kernel⟩
theorem g_law_stand_rims {f : Addr} {fd : FuncData} (F : Fun K "_law_stand_rims" "_law_stand_rims" s_law_stand_rims f fd) (h_law_draw : Has P w K mg base "_law_draw" 2 1 false m_law_draw) : FnG P w K mg base 2 false f fd 2 ["pool", "lives"] m_law_stand_rims :=
  fn_G (k := 1) (nb := false) (body := b_law_stand_rims) (keep := false) (n := 7) F sc_law_stand_rims rfl rfl rfl (fun cdv hcd A outer s H E g tk =>
    (b_cons (c_par2 (i := 2) (j := 3) g.calm g.nd (a_cons (e_f h_law_draw g (by decide) tk (a_cons (e_v (i := 0)) (a_cons e_int a_nil))) (a_cons (e_f h_law_draw g (by decide) tk (a_cons (e_v (i := 0)) (a_cons e_int a_nil))) a_nil)))
    (b_cons (c_if (t_cmp (s_eq g.u64) (e_v (i := 2)) e_int) (b_cons (c_par2 (i := 4) (j := 5) g.calm g.nd (a_cons (e_bin s_add e_int (e_f h_law_draw g (by decide) tk (a_cons (e_v (i := 0)) (a_cons e_int a_nil)))) (a_cons (e_f h_law_draw g (by decide) tk (a_cons (e_v (i := 0)) (a_cons e_int a_nil))) a_nil)))
    (b_one (c_ret (e_tup (a_cons (e_bin s_add (e_bin s_mulD (e_v (i := 4)) (e_bin s_add (e_v (i := 5)) e_int)) (e_v (i := 3))) (a_cons e_int (a_cons (e_bin s_add (e_v (i := 4)) (e_f h_law_draw g (by decide) tk (a_cons (e_v (i := 0)) (a_cons e_int a_nil)))) (a_cons (e_bin s_add e_int (e_f h_law_draw g (by decide) tk (a_cons (e_v (i := 0)) (a_cons (e_v (i := 1)) a_nil)))) (a_cons (e_v (i := 4)) (a_cons (e_v (i := 5)) a_nil)))))))))) b_nil)
    (b_cons (c_if (t_cmp (s_eq g.u64) (e_v (i := 2)) e_int) (b_cons (c_par2 (i := 6) (j := 5) g.calm g.nd (a_cons (e_bin s_add e_int (e_f h_law_draw g (by decide) tk (a_cons (e_v (i := 0)) (a_cons e_int a_nil)))) (a_cons (e_f h_law_draw g (by decide) tk (a_cons (e_v (i := 0)) (a_cons e_int a_nil))) a_nil)))
    (b_one (c_ret (e_tup (a_cons (e_bin s_add (e_bin s_add (e_v (i := 5)) e_int) (e_v (i := 3))) (a_cons (e_v (i := 6)) (a_cons (e_bin s_add (e_v (i := 6)) (e_f h_law_draw g (by decide) tk (a_cons (e_v (i := 0)) (a_cons e_int a_nil)))) (a_cons (e_bin s_add e_int (e_f h_law_draw g (by decide) tk (a_cons (e_v (i := 0)) (a_cons (e_v (i := 1)) a_nil)))) (a_cons e_int (a_cons (e_v (i := 5)) a_nil)))))))))) b_nil)
    (b_cons (c_if (t_cmp (s_eq g.u64) (e_v (i := 2)) e_int) (b_cons (c_set (i := 6) g.nd (e_bin s_add e_int (e_f h_law_draw g (by decide) tk (a_cons (e_v (i := 0)) (a_cons e_int a_nil)))))
    (b_cons (c_set (i := 4) g.nd (e_bin s_add e_int (e_f h_law_draw g (by decide) tk (a_cons (e_v (i := 0)) (a_cons (e_bin s_sub (e_bin s_div e_int (e_v (i := 6))) e_int) a_nil)))))
    (b_one (c_ret (e_tup (a_cons (e_bin s_add (e_v (i := 4)) (e_bin s_div (e_v (i := 3)) e_int)) (a_cons (e_v (i := 6)) (a_cons (e_bin s_add (e_bin s_mulD (e_v (i := 6)) (e_v (i := 4))) (e_f h_law_draw g (by decide) tk (a_cons (e_v (i := 0)) (a_cons e_int a_nil)))) (a_cons (e_bin s_add e_int (e_f h_law_draw g (by decide) tk (a_cons (e_v (i := 0)) (a_cons (e_v (i := 1)) a_nil)))) (a_cons (e_v (i := 4)) (a_cons e_int a_nil))))))))))) b_nil)
    (b_cons (c_par2 (i := 5) (j := 6) g.calm g.nd (a_cons (e_bin s_add e_int (e_f h_law_draw g (by decide) tk (a_cons (e_v (i := 0)) (a_cons e_int a_nil)))) (a_cons (e_bin s_add e_int (e_f h_law_draw g (by decide) tk (a_cons (e_v (i := 0)) (a_cons e_int a_nil)))) a_nil)))
    (b_one (c_ret (e_tup (a_cons (e_bin s_add (e_bin s_add (e_v (i := 5)) e_int) (e_v (i := 3))) (a_cons (e_v (i := 6)) (a_cons (e_bin s_add (e_v (i := 6)) (e_f h_law_draw g (by decide) tk (a_cons (e_v (i := 0)) (a_cons e_int a_nil)))) (a_cons (e_bin s_add e_int (e_f h_law_draw g (by decide) tk (a_cons (e_v (i := 0)) (a_cons (e_v (i := 1)) a_nil)))) (a_cons e_int (a_cons (e_v (i := 5)) a_nil)))))))))))))))
theorem ok_law_stand_rims {f : Addr} {fd : FuncData} (F : Fun K "_law_stand_rims" "_law_stand_rims" s_law_stand_rims f fd) (hm : mg "_law_stand_rims" = some (.ref f)) (h_law_draw : Has P w K mg base "_law_draw" 2 1 false m_law_draw) : Has P w K mg base "_law_stand_rims" 2 2 false m_law_stand_rims :=
  has_of F hm (F.binds (ps := ["pool", "lives"]) (fun _ _ _ _ _ _ us hl => match us, hl with | [_, _], _ => rfl)) (g_law_stand_rims F h_law_draw)
abbrev s_law_pick : Stmt := topS 34
theorem sc_law_pick : FnScope ["pool", "things"] ["pool", "things"] (defScope s_law_pick) := ⟨rfl, rfl, rfl, by decide +kernel, rfl, by decide +kernel, by decide +kernel⟩
theorem g_law_pick {f : Addr} {fd : FuncData} (F : Fun K "_law_pick" "_law_pick" s_law_pick f fd) (h_law_draw : Has P w K mg base "_law_draw" 2 1 false m_law_draw) (n_len : mg "len" = none) : FnG P w K mg base 2 false f fd 2 ["pool", "things"] m_law_pick :=
  fn_G (k := 1) (nb := false) (body := b_law_pick) (keep := false) (n := 2) F sc_law_pick rfl rfl rfl (fun cdv hcd A outer s H E g tk =>
    (b_one (c_ret (e_ix (e_v (i := 1)) (e_f h_law_draw g (by decide) tk (a_cons (e_v (i := 0)) (a_cons (e_bi s_len n_len (a_cons (e_v (i := 1)) a_nil)) a_nil)))))))
theorem ok_law_pick {f : Addr} {fd : FuncData} (F : Fun K "_law_pick" "_law_pick" s_law_pick f fd) (hm : mg "_law_pick" = some (.ref f)) (h_law_draw : Has P w K mg base "_law_draw" 2 1 false m_law_draw) (n_len : mg "len" = none) : Has P w K mg base "_law_pick" 2 2 false m_law_pick :=
  has_of F hm (F.binds (ps := ["pool", "things"]) (fun _ _ _ _ _ _ us hl => match us, hl with | [_, _], _ => rfl)) (g_law_pick F h_law_draw n_len)
abbrev s_law_stand_sizes : Stmt := topS 36
theorem sc_law_stand_sizes : FnScope ["pool", "records", "pieces", "lives", "top", "t", "d", "a", "n", "s", "turn"] ["pool", "records", "pieces", "lives", "top"] (defScope s_law_stand_sizes) := ⟨rfl, rfl, rfl, by decide +kernel, rfl, by decide +kernel, by decide +kernel⟩
theorem g_law_stand_sizes {f : Addr} {fd : FuncData} (F : Fun K "_law_stand_sizes" "_law_stand_sizes" s_law_stand_sizes f fd) (h_law_pick : Has P w K mg base "_law_pick" 2 2 false m_law_pick) (h_law_draw : Has P w K mg base "_law_draw" 2 1 false m_law_draw) (n_max : mg "max" = none) (n_range : mg "range" = none) : FnG P w K mg base 3 false f fd 5 ["pool", "records", "pieces", "lives", "top"] m_law_stand_sizes :=
  fn_G (k := 2) (nb := false) (body := b_law_stand_sizes) (keep := false) (n := 11) F sc_law_stand_sizes rfl rfl rfl (fun cdv hcd A outer s H E g tk =>
    (b_cons (c_par2 (i := 5) (j := 6) g.calm g.nd (a_cons (e_f h_law_pick g (by decide) tk (a_cons (e_v (i := 0)) (a_cons (e_lst (a_cons e_int (a_cons e_int (a_cons e_int (a_cons e_int (a_cons e_int (a_cons e_int (a_cons e_int a_nil)))))))) a_nil))) (a_cons (e_f h_law_pick g (by decide) tk (a_cons (e_v (i := 0)) (a_cons (e_lst (a_cons e_int (a_cons e_int (a_cons e_int (a_cons e_int (a_cons e_int (a_cons e_int (a_cons e_int (a_cons e_int (a_cons e_int (a_cons e_int (a_cons e_int (a_cons e_int a_nil))))))))))))) a_nil))) a_nil)))
    (b_cons (c_set (i := 7) g.nd (e_bin s_add e_int (e_f h_law_draw g (by decide) tk (a_cons (e_v (i := 0)) (a_cons (e_v (i := 2)) a_nil)))))
    (b_cons (c_set (i := 8) g.nd (e_bi (s_max2 g.calm) n_max (a_cons (e_bin s_mulD (e_v (i := 5)) (e_bin s_add (e_v (i := 6)) e_int)) (a_cons (e_bin s_add e_int (e_f h_law_draw g (by decide) tk (a_cons (e_v (i := 0)) (a_cons (e_v (i := 1)) a_nil)))) a_nil))))
    (b_cons (c_set (i := 9) g.nd (e_bin s_add (e_bin s_mulD (e_v (i := 7)) (e_v (i := 5))) (e_f h_law_pick g (by decide) tk (a_cons (e_v (i := 0)) (a_cons (e_lst (a_cons e_int (a_cons e_int (a_cons e_int (a_cons e_int (a_cons e_int (a_cons e_int (a_cons (e_f h_law_draw g (by decide) tk (a_cons (e_v (i := 0)) (a_cons e_int a_nil))) a_nil)))))))) a_nil)))))
    (b_cons (c_for (ws := [10]) g (i_rng1 n_range (a_cons e_int a_nil)) (g_n (i := 10) g.nd) (b_cons (c_if (t_cmp s_le (e_bin s_add (e_bin s_mulD (e_v (i := 8)) (e_v (i := 7))) (e_v (i := 9))) (e_v (i := 4))) (b_one c_break) b_nil)
    (b_one (c_if (t_cmp s_gt (e_v (i := 9)) (e_bin s_mulD (e_v (i := 7)) (e_v (i := 5)))) (b_one (c_set (i := 9) g.nd (e_bin s_sub (e_v (i := 9)) e_int))) (b_one (c_if (t_cmp s_gt (e_v (i := 8)) (e_bin s_mulD (e_v (i := 5)) (e_bin s_add (e_v (i := 6)) e_int))) (b_one (c_set (i := 8) g.nd (e_bin s_sub (e_v (i := 8)) e_int))) (b_one (c_if (t_cmp s_gt (e_v (i := 6)) e_int) (b_one (c_set (i := 6) g.nd (e_bin s_sub (e_v (i := 6)) e_int))) (b_one (c_if (t_cmp s_gt (e_v (i := 5)) e_int) (b_one (c_set (i := 5) g.nd (e_bin s_sub (e_v (i := 5)) e_int))) (b_one (c_par2 (i := 7) (j := 9) g.calm g.nd (a_cons (e_bin s_sub (e_v (i := 7)) e_int) (a_cons (e_bin s_sub (e_v (i := 7)) e_int) a_nil))))))))))))))
    (b_one (c_ret (e_tup (a_cons (e_v (i := 8)) (a_cons (e_v (i := 7)) (a_cons (e_v (i := 9)) (a_cons (e_bin s_add e_int (e_f h_law_draw g (by decide) tk (a_cons (e_v (i := 0)) (a_cons (e_v (i := 3)) a_nil)))) (a_cons (e_v (i := 5)) (a_cons (e_v (i := 6)) a_nil)))))))))))))))
theorem ok_law_stand_sizes {f : Addr} {fd : FuncData} (F : Fun K "_law_stand_sizes" "_law_stand_sizes" s_law_stand_sizes f fd) (hm : mg "_law_stand_sizes" = some (.ref f)) (h_law_pick : Has P w K mg base "_law_pick" 2 2 false m_law_pick) (h_law_draw : Has P w K mg base "_law_draw" 2 1 false m_law_draw) (n_max : mg "max" = none) (n_range : mg "range" = none) : Has P w K mg base "_law_stand_sizes" 5 3 false m_law_stand_sizes :=
  has_of F hm (F.binds (ps := ["pool", "records", "pieces", "lives", "top"]) (fun _ _ _ _ _ _ us hl => match us, hl with | [_, _, _, _, _], _ => rfl)) (g_law_stand_sizes F h_law_pick h_law_draw n_max n_range)
abbrev s_law_stand_great : Stmt := topS 38
theorem sc_law_stand_great : FnScope ["pool", "rims", "n", "a", "s", "t", "d"] ["pool"] (defScope s_law_stand_great) := ⟨rfl, rfl, rfl, by decide +kernel, rfl, by decide +kernel, by decide +kernel⟩
theorem g_law_stand_great {f : Addr} {fd : FuncData} (F : Fun K "_law_stand_great" "_law_stand_great" s_law_stand_great f fd) (h_law_pick : Has P w K mg base "_law_pick" 2 2 false m_law_pick) (h_law_draw : Has P w K mg base "_law_draw" 2 1 false m_law_draw) : FnG P w K mg base 3 false f fd 1 ["pool"] m_law_stand_great :=
  fn_G (k := 2) (nb := false) (body := b_law_stand_great) (keep := false) (n := 7) F sc_law_stand_great rfl rfl rfl (fun cdv hcd A outer s H E g tk =>
    (b_cons (c_set (i := 1) g.nd (e_lst (a_cons (e_tup (a_cons e_int (a_cons e_int (a_cons e_int (a_cons e_int (a_cons e_int a_nil)))))) (a_cons (e_tup (a_cons e_int (a_cons e_int (a_cons e_int (a_cons e_int (a_cons e_int a_nil)))))) (a_cons (e_tup (a_cons e_int (a_cons e_int (a_cons e_int (a_cons e_int (a_cons e_int a_nil)))))) (a_cons (e_tup (a_cons e_int (a_cons e_int (a_cons e_int (a_cons e_int (a_cons e_int a_nil)))))) (a_cons (e_tup (a_cons e_int (a_cons e_int (a_cons e_int (a_cons e_int (a_cons e_int a_nil)))))) a_nil)))))))
    (b_cons (c_asg (e_f h_law_pick g (by decide) tk (a_cons (e_v (i := 0)) (a_cons (e_bin s_add (e_v (i := 1)) (e_lst (a_cons (e_tup (a_cons e_int (a_cons e_int (a_cons e_int (a_cons e_int (a_cons e_int a_nil)))))) (a_cons (e_tup (a_cons e_int (a_cons e_int (a_cons e_int (a_cons e_int (a_cons e_int a_nil)))))) a_nil)))) a_nil))) (g_t g.calm g.nd (nms_cons (i := 2) (nms_cons (i := 3) (nms_cons (i := 4) (nms_cons (i := 5) (nms_cons (i := 6) nms_nil)))))))
    (b_one (c_ret (e_tup (a_cons (e_v (i := 2)) (a_cons (e_v (i := 3)) (a_cons (e_v (i := 4)) (a_cons (e_f h_law_pick g (by decide) tk (a_cons (e_v (i := 0)) (a_cons (e_lst (a_cons e_int (a_cons e_int (a_cons e_int (a_cons (e_bin s_add e_int (e_f h_law_draw g (by decide) tk (a_cons (e_v (i := 0)) (a_cons e_int a_nil)))) a_nil))))) a_nil))) (a_cons (e_v (i := 5)) (a_cons (e_v (i := 6)) a_nil))))))))))))
theorem ok_law_stand_great {f : Addr} {fd : FuncData} (F : Fun K "_law_stand_great" "_law_stand_great" s_law_stand_great f fd) (hm : mg "_law_stand_great" = some (.ref f)) (h_law_pick : Has P w K mg base "_law_pick" 2 2 false m_law_pick) (h_law_draw : Has P w K mg base "_law_draw" 2 1 false m_law_draw) : Has P w K mg base "_law_stand_great" 1 3 false m_law_stand_great :=
  has_of F hm (F.binds (ps := ["pool"]) (fun _ _ _ _ _ _ us hl => match us, hl with | [_], _ => rfl)) (g_law_stand_great F h_law_pick h_law_draw)
abbrev s_law_turned : Stmt := topS 35
theorem sc_law_turned : FnScope ["pool", "many", "left", "found", "turn"] ["pool", "many"] (defScope s_law_turned) := ⟨rfl, rfl, rfl, by decide +kernel, rfl, by decide +kernel, by decide +kernel⟩
theorem g_law_turned {f : Addr} {fd : FuncData} (F : Fun K "_law_turned" "_law_turned" s_law_turned f fd) (n_list : mg "list" = none) (n_range : mg "range" = none) (h_law_draw : Has P w K mg base "_law_draw" 2 1 false m_law_draw) (n_len : mg "len" = none) : FnG P w K mg base 2 false f fd 2 ["pool", "many"] m_law_turned :=
  fn_G (k := 1) (nb := false) (body := b_law_turned) (keep := false) (n := 5) F sc_law_turned rfl rfl rfl (fun cdv hcd A outer s H E g tk =>
    (b_cons (c_par2 (i := 2) (j := 3) g.calm g.nd (a_cons (e_lr1 (m := true) g.calm n_list n_range (e_v (i := 1))) (a_cons (e_ref a_nil) a_nil)))
    (b_cons (c_for (ws := [4]) g (i_rng1 n_range (a_cons (e_v (i := 1)) a_nil)) (g_n (i := 4) g.nd) (b_one (c_expr (e_m PySem.F.plainAttrs_list PySem.F.slot_list_append PySem.F.type_list_append s_app (e_v (i := 3)) (a_cons (e_m PySem.F.plainAttrs_list PySem.F.slot_list_pop PySem.F.type_list_pop s_popAt (e_v (i := 2)) (a_cons (e_f h_law_draw g (by decide) tk (a_cons (e_v (i := 0)) (a_cons (e_bi s_len n_len (a_cons (e_v (i := 2)) a_nil)) a_nil))) a_nil)) a_nil)))))
    (b_one (c_ret (e_v (i := 3)))))))
theorem ok_law_turned {f : Addr} {fd : FuncData} (F : Fun K "_law_turned" "_law_turned" s_law_turned f fd) (hm : mg "_law_turned" = some (.ref f)) (n_list : mg "list" = none) (n_range : mg "range" = none) (h_law_draw : Has P w K mg base "_law_draw" 2 1 false m_law_draw) (n_len : mg "len" = none) : Has P w K mg base "_law_turned" 2 2 false m_law_turned :=
  has_of F hm (F.binds (ps := ["pool", "many"]) (fun _ _ _ _ _ _ us hl => match us, hl with | [_, _], _ => rfl)) (g_law_turned F n_list n_range h_law_draw n_len)
abbrev s_law_stand_sworn : Stmt := topS 39
theorem sc_law_stand_sworn : FnScope ["pool", "sizes", "n", "a", "s", "w", "t", "d", "z"] ["pool", "sizes"] (defScope s_law_stand_sworn) := ⟨rfl, rfl, rfl, by decide +kernel, rfl, by decide +kernel, by decide +kernel⟩
theorem g_law_stand_sworn {f : Addr} {fd : FuncData} (F : Fun K "_law_stand_sworn" "_law_stand_sworn" s_law_stand_sworn f fd) (h_law_draw : Has P w K mg base "_law_draw" 2 1 false m_law_draw) (n_tuple : mg "tuple" = none) (n_sorted : mg "sorted" = none) (h_law_turned : Has P w K mg base "_law_turned" 2 2 false m_law_turned) : FnG P w K mg base 3 false f fd 2 ["pool", "sizes"] m_law_stand_sworn :=
  fn_G (k := 2) (nb := false) (body := b_law_stand_sworn) (keep := false) (n := 9) F sc_law_stand_sworn rfl rfl rfl (fun cdv hcd A outer s H E g tk =>
    (b_cons (c_asg (e_v (i := 1)) (g_t g.calm g.nd (nms_cons (i := 2) (nms_cons (i := 3) (nms_cons (i := 4) (nms_cons (i := 5) (nms_cons (i := 6) (nms_cons (i := 7) nms_nil))))))))
    (b_cons (c_set (i := 8) g.nd (e_if (t_cmp (s_eq g.u64) (e_f h_law_draw g (by decide) tk (a_cons (e_v (i := 0)) (a_cons e_int a_nil))) e_int) (e_f h_law_draw g (by decide) tk (a_cons (e_v (i := 0)) (a_cons (e_bin s_add (e_bin s_sub (e_v (i := 2)) (e_bin s_mulD (e_v (i := 6)) (e_bin s_add (e_v (i := 7)) e_int))) e_int) a_nil))) e_int))
    (b_one (c_ret (e_ty s_tupOf n_tuple (a_cons (e_bi s_sortS n_sorted (a_cons (e_sl (m := false) (e_f h_law_turned g (by decide) tk (a_cons (e_v (i := 0)) (a_cons (e_v (i := 2)) a_nil))) o_no (o_so (e_v (i := 8)))) a_nil)) a_nil)))))))
theorem ok_law_stand_sworn {f : Addr} {fd : FuncData} (F : Fun K "_law_stand_sworn" "_law_stand_sworn" s_law_stand_sworn f fd) (hm : mg "_law_stand_sworn" = some (.ref f)) (h_law_draw : Has P w K mg base "_law_draw" 2 1 false m_law_draw) (n_tuple : mg "tuple" = none) (n_sorted : mg "sorted" = none) (h_law_turned : Has P w K mg base "_law_turned" 2 2 false m_law_turned) : Has P w K mg base "_law_stand_sworn" 2 3 false m_law_stand_sworn :=
  has_of F hm (F.binds (ps := ["pool", "sizes"]) (fun _ _ _ _ _ _ us hl => match us, hl with | [_, _], _ => rfl)) (g_law_stand_sworn F h_law_draw n_tuple n_sorted h_law_turned)
abbrev s_law_stand_may : Stmt := topS 40
theorem sc_law_stand_may : FnScope ["sizes", "sworn", "last", "found", "record", "records"] ["sizes", "sworn", "last"] (defScope s_law_stand_may) := ⟨rfl, rfl, rfl, by decide +kernel, rfl, by decide +kernel, by decide +kernel⟩
theorem g_law_stand_may {f : Addr} {fd : FuncData} (F : Fun K "_law_stand_may" "_law_stand_may" s_law_stand_may f fd) (n_range : mg "range" = none) : FnG P w K mg base 1 false f fd 3 ["sizes", "sworn", "last"] m_law_stand_may :=
  fn_G (k := 0) (nb := false) (body := b_law_stand_may) (keep := false) (n := 6) F sc_law_stand_may rfl rfl rfl (fun cdv hcd A outer s H E g tk =>
    (b_cons (c_set (i := 3) g.nd (e_ref a_nil))
    (b_cons (c_for (ws := [4]) g (i_rng1 n_range (a_cons (e_ix (e_v (i := 0)) e_int) a_nil)) (g_n (i := 4) g.nd) (b_one (c_if (PW.pt (w_and (t_cmp (s_ninS g.u66) (e_v (i := 4)) (e_v (i := 1))) (w_and1 (t_cmp (s_eq g.u64) (e_lc (m := false) (own := [(("records" : Str), 5)]) (ws := [5]) g (i_seq (e_v (i := 2))) (blkOk_by (N := ["sizes", "sworn", "last", "found", "record", "records"]) (sc := defScope s_law_stand_may) (own := [(("records" : Str), 5)]) (by decide +kernel)) (by decide) (fun _ _ _ _ _ => (g_n (i := 5) (g.blk _ _ _ _ _).nd)) (fun _ _ _ _ _ => (i_test (t_cmp (s_inS (g.blk _ _ _ _ _).u66) (e_v (i := 4)) (e_v (i := 5))))) (fun _ _ _ _ _ => (e_v (i := 5)))) (e_lst a_nil))))) (b_one (c_expr (e_m PySem.F.plainAttrs_list PySem.F.slot_list_append PySem.F.type_list_append s_app (e_v (i := 3)) (a_cons (e_v (i := 4)) a_nil)))) b_nil)))
    (b_one (c_ret (e_v (i := 3)))))))
theorem ok_law_stand_may {f : Addr} {fd : FuncData} (F : Fun K "_law_stand_may" "_law_stand_may" s_law_stand_may f fd) (hm : mg "_law_stand_may" = some (.ref f)) (n_range : mg "range" = none) : Has P w K mg base "_law_stand_may" 3 1 false m_law_stand_may :=
  has_of F hm (F.binds (ps := ["sizes", "sworn", "last"]) (fun _ _ _ _ _ _ us hl => match us, hl with | [_, _, _], _ => rfl)) (g_law_stand_may F n_range)
abbrev s_law_stand_asked : Stmt := topS 41
theorem sc_law_stand_asked : FnScope ["pool", "sizes", "sworn", "last", "some", "at"] ["pool", "sizes", "sworn", "last"] (defScope s_law_stand_asked) := ⟨rfl, rfl, rfl, by decide +kernel, rfl, by decide +kernel, by decide +kernel⟩
theorem g_law_stand_asked {f : Addr} {fd : FuncData} (F : Fun K "_law_stand_asked" "_law_stand_asked" s_law_stand_asked f fd) (h_law_stand_may : Has P w K mg base "_law_stand_may" 3 1 false m_law_stand_may) (n_tuple : mg "tuple" = none) (n_sorted : mg "sorted" = none) (h_law_turned : Has P w K mg base "_law_turned" 2 2 false m_law_turned) (n_len : mg "len" = none) : FnG P w K mg base 3 false f fd 4 ["pool", "sizes", "sworn", "last"] m_law_stand_asked :=
  fn_G (k := 2) (nb := false) (body := b_law_stand_asked) (keep := false) (n := 6) F sc_law_stand_asked rfl rfl rfl (fun cdv hcd A outer s H E g tk =>
    (b_cons (c_set (i := 4) g.nd (e_f h_law_stand_may g (by decide) tk (a_cons (e_v (i := 1)) (a_cons (e_v (i := 2)) (a_cons (e_v (i := 3)) a_nil)))))
    (b_one (c_ret (e_ty s_tupOf n_tuple (a_cons (e_bi s_sortS n_sorted (a_cons (e_lc (m := false) (own := [(("at" : Str), 5)]) (ws := [5]) g (i_seq (e_sl (m := false) (e_f h_law_turned g (by decide) tk (a_cons (e_v (i := 0)) (a_cons (e_bi s_len n_len (a_cons (e_v (i := 4)) a_nil)) a_nil))) o_no (o_so (e_ix (e_v (i := 1)) e_int)))) (blkOk_by (N := ["pool", "sizes", "sworn", "last", "some", "at"]) (sc := defScope s_law_stand_asked) (own := [(("at" : Str), 5)]) (by decide +kernel)) (by decide) (fun _ _ _ _ _ => (g_n (i := 5) (g.blk _ _ _ _ _).nd)) (fun _ _ _ _ _ => i_yes) (fun _ _ _ _ _ => (e_ix (e_v (i := 4)) (e_v (i := 5))))) a_nil)) a_nil))))))
theorem ok_law_stand_asked {f : Addr} {fd : FuncData} (F : Fun K "_law_stand_asked" "_law_stand_asked" s_law_stand_asked f fd) (hm : mg "_law_stand_asked" = some (.ref f)) (h_law_stand_may : Has P w K mg base "_law_stand_may" 3 1 false m_law_stand_may) (n_tuple : mg "tuple" = none) (n_sorted : mg "sorted" = none) (h_law_turned : Has P w K mg base "_law_turned" 2 2 false m_law_turned) (n_len : mg "len" = none) : Has P w K mg base "_law_stand_asked" 4 3 false m_law_stand_asked :=
  has_of F hm (F.binds (ps := ["pool", "sizes", "sworn", "last"]) (fun _ _ _ _ _ _ us hl => match us, hl with | [_, _, _, _], _ => rfl)) (g_law_stand_asked F h_law_stand_may n_tuple n_sorted h_law_turned n_len)
abbrev s_law_stand_behind : Stmt := topS 42
theorem sc_law_stand_behind : FnScope ["sizes", "last", "records", "found"] ["sizes", "last", "records"] (defScope s_law_stand_behind) := ⟨rfl, rfl, rfl, by decide +kernel, rfl, by decide +kernel, by decide +kernel⟩
theorem g_law_stand_behind {f : Addr} {fd : FuncData} (F : Fun K "_law_stand_behind" "_law_stand_behind" s_law_stand_behind f fd) (n_max : mg "max" = none) (n_len : mg "len" = none) : FnG P w K mg base 1 false f fd 3 ["sizes", "last", "records"] m_law_stand_behind :=
  fn_G (k := 0) (nb := false) (body := b_law_stand_behind) (keep := false) (n := 4) F sc_law_stand_behind rfl rfl rfl (fun cdv hcd A outer s H E g tk =>
    (b_cons (c_set (i := 3) g.nd (e_bin s_add (e_v (i := 1)) (e_tup (a_cons (e_v (i := 2)) a_nil))))
    (b_one (c_ret (e_sl (m := false) (e_v (i := 3)) (o_so (e_bi (s_max2 g.calm) n_max (a_cons e_int (a_cons (e_bin s_sub (e_bi s_len n_len (a_cons (e_v (i := 3)) a_nil)) (e_ix (e_v (i := 0)) e_int)) a_nil)))) o_no)))))
theorem ok_law_stand_behind {f : Addr} {fd : FuncData} (F : Fun K "_law_stand_behind" "_law_stand_behind" s_law_stand_behind f fd) (hm : mg "_law_stand_behind" = some (.ref f)) (n_max : mg "max" = none) (n_len : mg "len" = none) : Has P w K mg base "_law_stand_behind" 3 1 false m_law_stand_behind :=
  has_of F hm (F.binds (ps := ["sizes", "last", "records"]) (fun _ _ _ _ _ _ us hl => match us, hl with | [_, _, _], _ => rfl)) (g_law_stand_behind F n_max n_len)
abbrev s_law_stand_script : Stmt := topS 43
theorem sc_law_stand_script : FnScope ["pool", "sizes", "sworn", "many", "found", "last", "turn", "records"] ["pool", "sizes", "sworn", "many"] (defScope s_law_stand_script) := ⟨rfl, rfl, rfl, by decide +kernel, rfl, by decide +kernel, by decide +kernel⟩
theorem g_law_stand_script {f : Addr} {fd : FuncData} (F : Fun K "_law_stand_script" "_law_stand_script" s_law_stand_script f fd) (n_range : mg "range" = none) (h_law_stand_asked : Has P w K mg base "_law_stand_asked" 4 3 false m_law_stand_asked) (h_law_stand_behind : Has P w K mg base "_law_stand_behind" 3 1 false m_law_stand_behind) : FnG P w K mg base 4 false f fd 4 ["pool", "sizes", "sworn", "many"] m_law_stand_script :=
  fn_G (k := 3) (nb := false) (body := b_law_stand_script) (keep := false) (n := 8) F sc_law_stand_script rfl rfl rfl (fun cdv hcd A outer s H E g tk =>
    (b_cons (c_asg (e_tup (a_cons (e_tup a_nil) (a_cons (e_tup a_nil) a_nil))) (g_t g.calm g.nd (nms_cons (i := 4) (nms_cons (i := 5) nms_nil))))
    (b_cons (c_for (ws := [6]) g (i_rng1 n_range (a_cons (e_v (i := 3)) a_nil)) (g_n (i := 6) g.nd) (b_cons (c_set (i := 7) g.nd (e_f h_law_stand_asked g (by decide) tk (a_cons (e_v (i := 0)) (a_cons (e_v (i := 1)) (a_cons (e_v (i := 2)) (a_cons (e_v (i := 5)) a_nil))))))
    (b_one (c_par2 (i := 4) (j := 5) g.calm g.nd (a_cons (e_bin s_add (e_v (i := 4)) (e_tup (a_cons (e_v (i := 7)) a_nil))) (a_cons (e_f h_law_stand_behind g (by decide) tk (a_cons (e_v (i := 1)) (a_cons (e_v (i := 5)) (a_cons (e_v (i := 7)) a_nil)))) a_nil))))))
    (b_one (c_ret (e_v (i := 4)))))))
theorem ok_law_stand_script {f : Addr} {fd : FuncData} (F : Fun K "_law_stand_script" "_law_stand_script" s_law_stand_script f fd) (hm : mg "_law_stand_script" = some (.ref f)) (n_range : mg "range" = none) (h_law_stand_asked : Has P w K mg base "_law_stand_asked" 4 3 false m_law_stand_asked) (h_law_stand_behind : Has P w K mg base "_law_stand_behind" 3 1 false m_law_stand_behind) : Has P w K mg base "_law_stand_script" 4 4 false m_law_stand_script :=
  has_of F hm (F.binds (ps := ["pool", "sizes", "sworn", "many"]) (fun _ _ _ _ _ _ us hl => match us, hl with | [_, _, _, _], _ => rfl)) (g_law_stand_script F n_range h_law_stand_asked h_law_stand_behind)
abbrev s_law_is_form : Stmt := topS 45
theorem sc_law_is_form : FnScope ["sizes", "thing", "at", "record"] ["sizes", "thing"] (defScope s_law_is_form) := ⟨rfl, rfl, rfl, by decide +kernel, rfl, by decide +kernel, by decide +kernel⟩
theorem g_law_is_form {f : Addr} {fd : FuncData} (F : Fun K "_law_is_form" "_law_is_form" s_law_is_form f fd) (n_isinstance : mg "isinstance" = none) (n_tuple : mg "tuple" = none) (n_len : mg "len" = none) (n_enumerate : mg "enumerate" = none) (n_int : mg "int" = none) (n_bool : mg "bool" = none) : FnG P w K mg base 1 false f fd 2 ["sizes", "thing"] m_law_is_form :=
  fn_G (k := 0) (nb := false) (body := b_law_is_form) (keep := false) (n := 4) F sc_law_is_form rfl rfl rfl (fun cdv hcd A outer s H E g tk =>
    (b_cons (c_if (PW.pt (w_or (t_not (t_v (e_isi (T := "tuple") n_isinstance n_tuple (e_v (i := 1))))) (w_or1 (t_cmp (s_ne g.u64) (e_bi s_len n_len (a_cons (e_v (i := 1)) a_nil)) (e_ix (e_v (i := 0)) e_int))))) (b_one (c_ret e_bl)) b_nil)
    (b_cons (c_for (ws := [2, 3]) g (i_enumS n_enumerate (a_cons (e_v (i := 1)) a_nil)) (g_t g.calm g.nd (nms_cons (i := 2) (nms_cons (i := 3) nms_nil))) (b_cons (c_if (PW.pt (w_or (t_not (t_v (e_isi (T := "int") n_isinstance n_int (e_v (i := 3))))) (w_or (t_v (e_isi (T := "bool") n_isinstance n_bool (e_v (i := 3)))) (w_or1 (t_not (t_chain s_le s_lt e_int (e_v (i := 3)) (e_ix (e_v (i := 0)) e_int))))))) (b_one (c_ret e_bl)) b_nil)
    (b_one (c_if (PW.pt (w_and (t_cmp s_gt (e_v (i := 2)) e_int) (w_and1 (t_cmp s_le (e_v (i := 3)) (e_ix (e_v (i := 1)) (e_bin s_sub (e_v (i := 2)) e_int)))))) (b_one (c_ret e_bl)) b_nil))))
    (b_one (c_ret e_bl)))))
theorem ok_law_is_form {f : Addr} {fd : FuncData} (F : Fun K "_law_is_form" "_law_is_form" s_law_is_form f fd) (hm : mg "_law_is_form" = some (.ref f)) (n_isinstance : mg "isinstance" = none) (n_tuple : mg "tuple" = none) (n_len : mg "len" = none) (n_enumerate : mg "enumerate" = none) (n_int : mg "int" = none) (n_bool : mg "bool" = none) : Has P w K mg base "_law_is_form" 2 1 false m_law_is_form :=
  has_of F hm (F.binds (ps := ["sizes", "thing"]) (fun _ _ _ _ _ _ us hl => match us, hl with | [_, _], _ => rfl)) (g_law_is_form F n_isinstance n_tuple n_len n_enumerate n_int n_bool)
abbrev s_law_wrong : Stmt := topS 46
theorem sc_law_wrong : FnScope ["sizes", "sworn", "thing", "at", "records", "wrong", "record", "seen_last"] ["sizes", "sworn", "thing"] (defScope s_law_wrong) := ⟨rfl, rfl, rfl, by decide +kernel, rfl, by decide +kernel, by decide +kernel⟩
theorem g_law_wrong {f : Addr} {fd : FuncData} (F : Fun K "_law_wrong" "_law_wrong" s_law_wrong f fd) (n_isinstance : mg "isinstance" = none) (n_tuple : mg "tuple" = none) (n_len : mg "len" = none) (n_enumerate : mg "enumerate" = none) (h_law_is_form : Has P w K mg base "_law_is_form" 2 1 false m_law_is_form) : FnG P w K mg base 2 false f fd 3 ["sizes", "sworn", "thing"] m_law_wrong :=
  fn_G (k := 1) (nb := false) (body := b_law_wrong) (keep := false) (n := 8) F sc_law_wrong rfl rfl rfl (fun cdv hcd A outer s H E g tk =>
    (b_cons (c_if (PW.pt (w_or (t_not (t_v (e_isi (T := "tuple") n_isinstance n_tuple (e_v (i := 2))))) (w_or1 (t_cmp s_gt (e_bi s_len n_len (a_cons (e_v (i := 2)) a_nil)) e_int)))) (b_one (c_ret (e_tup (a_cons e_str (a_cons (e_un s_neg e_int) (a_cons e_bl a_nil)))))) b_nil)
    (b_cons (c_lc (i := 5) (m := false) (own := [(("at" : Str), 3), (("records" : Str), 4)]) (ws := [3, 4]) g (i_enumS n_enumerate (a_cons (e_v (i := 2)) a_nil)) (blkOk_by (N := ["sizes", "sworn", "thing", "at", "records", "wrong", "record", "seen_last"]) (sc := defScope s_law_wrong) (own := [(("at" : Str), 3), (("records" : Str), 4)]) (by decide +kernel)) (by decide) (fun _ _ _ _ _ => (g_t (g.blk _ _ _ _ _).calm (g.blk _ _ _ _ _).nd (nms_cons (i := 3) (nms_cons (i := 4) nms_nil)))) (fun _ _ _ _ _ => (i_test (t_not (t_v (e_f h_law_is_form (g.blk _ _ _ _ _) (by decide) tk0 (a_cons (e_v (i := 0)) (a_cons (e_v (i := 4)) a_nil))))))) (fun _ _ _ _ _ => (e_v (i := 3))))
    (b_cons (c_if (t_cmp (s_ne g.u64) (e_v (i := 5)) (e_lst a_nil)) (b_one (c_ret (e_tup (a_cons e_str (a_cons (e_ix (e_v (i := 5)) e_int) (a_cons e_bl a_nil)))))) b_nil)
    (b_cons (c_lc (i := 5) (m := false) (own := [(("at" : Str), 3), (("records" : Str), 4)]) (ws := [3, 4]) g (i_enumS n_enumerate (a_cons (e_v (i := 2)) a_nil)) (blkOk_by (N := ["sizes", "sworn", "thing", "at", "records", "wrong", "record", "seen_last"]) (sc := defScope s_law_wrong) (own := [(("at" : Str), 3), (("records" : Str), 4)]) (by decide +kernel)) (by decide) (fun _ _ _ _ _ => (g_t (g.blk _ _ _ _ _).calm (g.blk _ _ _ _ _).nd (nms_cons (i := 3) (nms_cons (i := 4) nms_nil)))) (fun _ _ _ _ _ => (i_test (t_cmp (s_ne (g.blk _ _ _ _ _).u64) (e_lc (m := false) (own := [(("record" : Str), 6)]) (ws := [6]) (g.blk _ _ _ _ _) (i_seq (e_v (i := 4))) (blkOk_by (N := ["sizes", "sworn", "thing", "at", "records", "wrong", "record", "seen_last"]) (own := [(("record" : Str), 6)]) (by first | rfl | kernel_rfl)) (by decide) (fun _ _ _ _ _ => (g_n (i := 6) ((g.blk _ _ _ _ _).blk _ _ _ _ _).nd)) (fun _ _ _ _ _ => (i_test (t_cmp (s_inS ((g.blk _ _ _ _ _).blk _ _ _ _ _).u66) (e_v (i := 6)) (e_v (i := 1))))) (fun _ _ _ _ _ => (e_v (i := 6)))) (e_lst a_nil)))) (fun _ _ _ _ _ => (e_v (i := 3))))
    (b_cons (c_if (t_cmp (s_ne g.u64) (e_v (i := 5)) (e_lst a_nil)) (b_one (c_ret (e_tup (a_cons e_str (a_cons (e_ix (e_v (i := 5)) e_int) (a_cons e_bl a_nil)))))) b_nil)
    (b_cons (c_set (i := 7) g.nd e_dct)
    (b_cons (c_for (ws := [3, 4]) g (i_enumS n_enumerate (a_cons (e_v (i := 2)) a_nil)) (g_t g.calm g.nd (nms_cons (i := 3) (nms_cons (i := 4) nms_nil))) (b_cons (c_if (t_cmp (s_ne g.u64) (e_lc (m := false) (own := [(("record" : Str), 6)]) (ws := [6]) g (i_seq (e_v (i := 4))) (blkOk_by (N := ["sizes", "sworn", "thing", "at", "records", "wrong", "record", "seen_last"]) (sc := defScope s_law_wrong) (own := [(("record" : Str), 6)]) (by decide +kernel)) (by decide) (fun _ _ _ _ _ => (g_n (i := 6) (g.blk _ _ _ _ _).nd)) (fun _ _ _ _ _ => (i_test (t_cmp s_le (e_bin s_sub (e_v (i := 3)) (e_get2 (g.blk _ _ _ _ _).u66 (e_v (i := 7)) (e_v (i := 6)) (e_un s_neg e_int))) (e_ix (e_v (i := 0)) e_int)))) (fun _ _ _ _ _ => (e_v (i := 6)))) (e_lst a_nil)) (b_one (c_ret (e_tup (a_cons e_str (a_cons (e_v (i := 3)) (a_cons e_bl a_nil)))))) b_nil)
    (b_one (c_for (ws := [6]) g (i_seq (e_v (i := 4))) (g_n (i := 6) g.nd) (b_one (c_putD g.u66 (e_v (i := 3)) (e_v (i := 7)) (e_v (i := 6))))))))
    (b_one (c_ret (e_tup a_nil)))))))))))
theorem ok_law_wrong {f : Addr} {fd : FuncData} (F : Fun K "_law_wrong" "_law_wrong" s_law_wrong f fd) (hm : mg "_law_wrong" = some (.ref f)) (n_isinstance : mg "isinstance" = none) (n_tuple : mg "tuple" = none) (n_len : mg "len" = none) (n_enumerate : mg "enumerate" = none) (h_law_is_form : Has P w K mg base "_law_is_form" 2 1 false m_law_is_form) : Has P w K mg base "_law_wrong" 3 2 false m_law_wrong :=
  has_of F hm (F.binds (ps := ["sizes", "sworn", "thing"]) (fun _ _ _ _ _ _ us hl => match us, hl with | [_, _, _], _ => rfl)) (g_law_wrong F n_isinstance n_tuple n_len n_enumerate h_law_is_form)
abbrev s_is_script : Stmt := topS 30
theorem sc_is_script : FnScope ["sizes", "sworn", "thing"] ["sizes", "sworn", "thing"] (defScope s_is_script) := ⟨rfl, rfl, rfl, by decide +kernel, rfl, by decide +kernel, by decide +kernel⟩
theorem g_is_script {f : Addr} {fd : FuncData} (F : Fun K "is_script" "is_script" s_is_script f fd) {CS_is_let : Addr} (l_is_let : IsLet K mg "is_let" "Refused" CS_is_let) (ls_is_let : ∀ y ∈ refL, ∀ C, mg y = some (.ref C) → PySem.W.exmOne K (.ref C) (.ref CS_is_let) = some true) {kc P_k : Addr} (kc_is_script : fd.code = .ref kc) (kt_is_script : LamX.TabB base mg kc P_k) (km_is_script : (P_k, ("is_script.<locals>.<lambda>" : Str)) ∈ Tbs.T) (ku_is_script : ∀ p ∈ Tbs.T, p.1 = P_k → p.2 = ("is_script.<locals>.<lambda>" : Str)) (h_made_script : Has P w K mg base "made_script" 3 6 false m_made_script) : FnG P w K mg base 9 false f fd 3 ["sizes", "sworn", "thing"] m_is_script :=
  fn_G (k := 8) (nb := false) (body := b_is_script) (keep := false) (n := 3) F sc_is_script rfl rfl rfl (fun cdv hcd A outer s H E g tk =>
    (b_one (c_ret (e_let g l_is_let ⟨⟨_, _, hcd.symm.trans kc_is_script, kt_is_script, km_is_script, ku_is_script⟩⟩ ls_is_let (LamX.lamS_by (sc := defScope s_is_script) (by decide +kernel)) (fun A1 outer1 s1 H1 E1 f1 c1 g1 tk1 => (e_f h_made_script g1 (by decide) tk1 (a_cons (e_v (i := 0)) (a_cons (e_v (i := 1)) (a_cons (e_v (i := 2)) a_nil)))))))))
theorem ok_is_script {f : Addr} {fd : FuncData} (F : Fun K "is_script" "is_script" s_is_script f fd) (hm : mg "is_script" = some (.ref f)) {CS_is_let : Addr} (l_is_let : IsLet K mg "is_let" "Refused" CS_is_let) (ls_is_let : ∀ y ∈ refL, ∀ C, mg y = some (.ref C) → PySem.W.exmOne K (.ref C) (.ref CS_is_let) = some true) {kc P_k : Addr} (kc_is_script : fd.code = .ref kc) (kt_is_script : LamX.TabB base mg kc P_k) (km_is_script : (P_k, ("is_script.<locals>.<lambda>" : Str)) ∈ Tbs.T) (ku_is_script : ∀ p ∈ Tbs.T, p.1 = P_k → p.2 = ("is_script.<locals>.<lambda>" : Str)) (h_made_script : Has P w K mg base "made_script" 3 6 false m_made_script) : Has P w K mg base "is_script" 3 9 false m_is_script :=
  has_of F hm (F.binds (ps := ["sizes", "sworn", "thing"]) (fun _ _ _ _ _ _ us hl => match us, hl with | [_, _, _], _ => rfl)) (g_is_script F l_is_let ls_is_let kc_is_script kt_is_script km_is_script ku_is_script h_made_script)
abbrev s_law_right : Stmt := topS 49
theorem sc_law_right : FnScope ["sizes", "sworn", "thing", "wrong", "due"] ["sizes", "sworn", "thing"] (defScope s_law_right) := ⟨rfl, rfl, rfl, by decide +kernel, rfl, by decide +kernel, by decide +kernel⟩
theorem g_law_right {f : Addr} {fd : FuncData} (F : Fun K "_law_right" "_law_right" s_law_right f fd) (h_law_wrong : Has P w K mg base "_law_wrong" 3 2 false m_law_wrong) (n_repr : mg "repr" = none) (hd_law_heard : IsHearF K mg "_law_heard" true "told" hl_law_heard "another" 0) {kc P_k : Addr} (kc__law_right : fd.code = .ref kc) (kt__law_right : LamX.TabB base mg kc P_k) (km__law_right : (P_k, ("_law_right.<locals>.<lambda>" : Str)) ∈ Tbs.T) (ku__law_right : ∀ p ∈ Tbs.T, p.1 = P_k → p.2 = ("_law_right.<locals>.<lambda>" : Str)) (h_made_script : Has P w K mg base "made_script" 3 6 false m_made_script) (h_is_script : Has P w K mg base "is_script" 3 9 false m_is_script) : FnG P w K mg base 10 true f fd 3 ["sizes", "sworn", "thing"] m_law_right :=
  fn_G (k := 9) (nb := true) (body := b_law_right) (keep := false) (n := 5) F sc_law_right rfl rfl rfl (fun cdv hcd A outer s H E g tk =>
    (b_cons (c_set (i := 3) g.nd (e_f h_law_wrong g (by decide) tk (a_cons (e_v (i := 0)) (a_cons (e_v (i := 1)) (a_cons (e_v (i := 2)) a_nil)))))
    (b_cons (c_set (i := 4) g.nd (e_if (t_cmp (s_eq g.u64) (e_v (i := 3)) (e_tup a_nil)) (e_tup (a_cons e_str (a_cons (e_v (i := 2)) a_nil))) (e_v (i := 3))))
    (b_cons (c_if (t_cmp (s_ne g.u64) (e_bi (s_repr (g.gd rfl) g.u66) n_repr (a_cons (e_hearF g hd_law_heard ⟨⟨_, _, hcd.symm.trans kc__law_right, kt__law_right, km__law_right, ku__law_right⟩⟩ (LamX.lamS_by (sc := defScope s_law_right) (by decide +kernel)) (fun A1 outer1 s1 H1 E1 f1 c1 g1 tk1 => (e_f h_made_script g1 (by decide) tk1 (a_cons (e_v (i := 0)) (a_cons (e_v (i := 1)) (a_cons (e_v (i := 2)) a_nil)))))) a_nil)) (e_bi (s_repr (g.gd rfl) g.u66) n_repr (a_cons (e_v (i := 4)) a_nil))) (b_one (c_ret e_bl)) b_nil)
    (b_one (c_ret (e_cmp (s_eq g.u64) (e_bi (s_repr (g.gd rfl) g.u66) n_repr (a_cons (e_f h_is_script g (by decide) tk (a_cons (e_v (i := 0)) (a_cons (e_v (i := 1)) (a_cons (e_v (i := 2)) a_nil)))) a_nil)) (e_bi (s_repr (g.gd rfl) g.u66) n_repr (a_cons (e_cmp (s_eq g.u64) (e_v (i := 3)) (e_tup a_nil)) a_nil)))))))))
theorem ok_law_right {f : Addr} {fd : FuncData} (F : Fun K "_law_right" "_law_right" s_law_right f fd) (hm : mg "_law_right" = some (.ref f)) (h_law_wrong : Has P w K mg base "_law_wrong" 3 2 false m_law_wrong) (n_repr : mg "repr" = none) (hd_law_heard : IsHearF K mg "_law_heard" true "told" hl_law_heard "another" 0) {kc P_k : Addr} (kc__law_right : fd.code = .ref kc) (kt__law_right : LamX.TabB base mg kc P_k) (km__law_right : (P_k, ("_law_right.<locals>.<lambda>" : Str)) ∈ Tbs.T) (ku__law_right : ∀ p ∈ Tbs.T, p.1 = P_k → p.2 = ("_law_right.<locals>.<lambda>" : Str)) (h_made_script : Has P w K mg base "made_script" 3 6 false m_made_script) (h_is_script : Has P w K mg base "is_script" 3 9 false m_is_script) : Has P w K mg base "_law_right" 3 10 true m_law_right :=
  has_of F hm (F.binds (ps := ["sizes", "sworn", "thing"]) (fun _ _ _ _ _ _ us hl => match us, hl with | [_, _, _], _ => rfl)) (g_law_right F h_law_wrong n_repr hd_law_heard kc__law_right kt__law_right km__law_right ku__law_right h_made_script h_is_script)
abbrev s_law_bent_commit : Stmt := topS 47
theorem sc_law_bent_commit : FnScope ["pool", "sizes", "records", "way", "at", "odd"] ["pool", "sizes", "records"] (defScope s_law_bent_commit) := ⟨rfl, rfl, rfl, by decide +kernel, rfl, by decide +kernel, by decide +kernel⟩
theorem g_law_bent_commit {f : Addr} {fd : FuncData} (F : Fun K "_law_bent_commit" "_law_bent_commit" s_law_bent_commit f fd) (h_law_draw : Has P w K mg base "_law_draw" 2 1 false m_law_draw) (n_len : mg "len" = none) (n_tuple : mg "tuple" = none) (n_sorted : mg "sorted" = none) (h_law_turned : Has P w K mg base "_law_turned" 2 2 false m_law_turned) (h_law_pick : Has P w K mg base "_law_pick" 2 2 false m_law_pick) (n_list : mg "list" = none) : FnG P w K mg base 3 false f fd 3 ["pool", "sizes", "records"] m_law_bent_commit :=
  fn_G (k := 2) (nb := false) (body := b_law_bent_commit) (keep := false) (n := 6) F sc_law_bent_commit rfl rfl rfl (fun cdv hcd A outer s H E g tk =>
    (b_cons (c_par2 (i := 3) (j := 4) g.calm g.nd (a_cons (e_f h_law_draw g (by decide) tk (a_cons (e_v (i := 0)) (a_cons e_int a_nil))) (a_cons (e_f h_law_draw g (by decide) tk (a_cons (e_v (i := 0)) (a_cons (e_bi s_len n_len (a_cons (e_v (i := 2)) a_nil)) a_nil))) a_nil)))
    (b_cons (c_if (t_cmp s_lt (e_v (i := 3)) e_int) (b_one (c_ret (e_ty s_tupOf n_tuple (a_cons (e_bi s_sortS n_sorted (a_cons (e_sl (m := false) (e_f h_law_turned g (by decide) tk (a_cons (e_v (i := 0)) (a_cons (e_ix (e_v (i := 1)) e_int) a_nil))) o_no (o_so (e_ix (e_v (i := 1)) e_int))) a_nil)) a_nil)))) b_nil)
    (b_cons (c_if (t_cmp (s_eq g.u64) (e_v (i := 3)) e_int) (b_cons (c_set (i := 5) g.nd (e_lst (a_cons (e_un s_neg e_int) (a_cons (e_ix (e_v (i := 1)) e_int) (a_cons e_non (a_cons e_bl (a_cons e_bl (a_cons e_str (a_cons (e_tup (a_cons e_int a_nil)) (a_cons (e_bin s_pow e_int e_int) (a_cons e_int a_nil)))))))))))
    (b_one (c_ret (e_bin s_add (e_bin s_add (e_sl (m := false) (e_v (i := 2)) o_no (o_so (e_v (i := 4)))) (e_tup (a_cons (e_f h_law_pick g (by decide) tk (a_cons (e_v (i := 0)) (a_cons (e_v (i := 5)) a_nil))) a_nil))) (e_sl (m := false) (e_v (i := 2)) (o_so (e_bin s_add (e_v (i := 4)) e_int)) o_no))))) b_nil)
    (b_cons (c_if (t_cmp (s_eq g.u64) (e_v (i := 3)) e_int) (b_one (c_ret (e_f h_law_pick g (by decide) tk (a_cons (e_v (i := 0)) (a_cons (e_lst (a_cons e_non (a_cons e_int (a_cons (e_ty (s_listOf (m := false)) n_list (a_cons (e_v (i := 2)) a_nil)) (a_cons (e_rev (m := false) (e_v (i := 2))) (a_cons (e_bin s_add (e_v (i := 2)) (e_sl (m := false) (e_v (i := 2)) o_no (o_so e_int))) (a_cons (e_sl (m := false) (e_v (i := 2)) (o_so e_int) o_no) (a_cons e_str (a_cons (e_tup a_nil) a_nil))))))))) a_nil))))) b_nil)
    (b_one (c_ret (e_v (i := 2)))))))))
theorem ok_law_bent_commit {f : Addr} {fd : FuncData} (F : Fun K "_law_bent_commit" "_law_bent_commit" s_law_bent_commit f fd) (hm : mg "_law_bent_commit" = some (.ref f)) (h_law_draw : Has P w K mg base "_law_draw" 2 1 false m_law_draw) (n_len : mg "len" = none) (n_tuple : mg "tuple" = none) (n_sorted : mg "sorted" = none) (h_law_turned : Has P w K mg base "_law_turned" 2 2 false m_law_turned) (h_law_pick : Has P w K mg base "_law_pick" 2 2 false m_law_pick) (n_list : mg "list" = none) : Has P w K mg base "_law_bent_commit" 3 3 false m_law_bent_commit :=
  has_of F hm (F.binds (ps := ["pool", "sizes", "records"]) (fun _ _ _ _ _ _ us hl => match us, hl with | [_, _, _], _ => rfl)) (g_law_bent_commit F h_law_draw n_len n_tuple n_sorted h_law_turned h_law_pick n_list)
abbrev s_law_bent : Stmt := topS 48
theorem sc_law_bent : FnScope ["pool", "sizes", "commits", "way", "at", "to", "found", "spot"] ["pool", "sizes", "commits"] (defScope s_law_bent) := ⟨rfl, rfl, rfl, by decide +kernel, rfl, by decide +kernel, by decide +kernel⟩
theorem g_law_bent {f : Addr} {fd : FuncData} (F : Fun K "_law_bent" "_law_bent" s_law_bent f fd) (h_law_draw : Has P w K mg base "_law_draw" 2 1 false m_law_draw) (n_len : mg "len" = none) (h_law_pick : Has P w K mg base "_law_pick" 2 2 false m_law_pick) (n_list : mg "list" = none) (n_int : mg "int" = none) (h_law_bent_commit : Has P w K mg base "_law_bent_commit" 3 3 false m_law_bent_commit) (n_tuple : mg "tuple" = none) : FnG P w K mg base 4 false f fd 3 ["pool", "sizes", "commits"] m_law_bent :=
  fn_G (k := 3) (nb := false) (body := b_law_bent) (keep := false) (n := 8) F sc_law_bent rfl rfl rfl (fun cdv hcd A outer s H E g tk =>
    (b_cons (c_par3 (i := 3) (j := 4) (l := 5) g.calm g.nd (a_cons (e_f h_law_draw g (by decide) tk (a_cons (e_v (i := 0)) (a_cons e_int a_nil))) (a_cons (e_f h_law_draw g (by decide) tk (a_cons (e_v (i := 0)) (a_cons (e_bin s_add (e_bi s_len n_len (a_cons (e_v (i := 2)) a_nil)) e_int) a_nil))) (a_cons (e_f h_law_draw g (by decide) tk (a_cons (e_v (i := 0)) (a_cons (e_bin s_add (e_bi s_len n_len (a_cons (e_v (i := 2)) a_nil)) e_int) a_nil))) a_nil))))
    (b_cons (c_if (t_cmp (s_eq g.u64) (e_v (i := 3)) e_int) (b_one (c_ret (e_f h_law_pick g (by decide) tk (a_cons (e_v (i := 0)) (a_cons (e_lst (a_cons e_non (a_cons e_int (a_cons e_str (a_cons (e_ty (s_listOf (m := false)) n_list (a_cons (e_v (i := 2)) a_nil)) (a_cons e_bl (a_cons (e_tup (a_cons (e_v (i := 2)) a_nil)) a_nil))))))) a_nil))))) b_nil)
    (b_cons (c_if (t_cmp (s_eq g.u64) (e_v (i := 3)) e_int) (b_one (c_ret (e_bin s_add (e_bin s_add (e_sl (m := false) (e_v (i := 2)) o_no (o_so (e_v (i := 4)))) (e_sl (m := false) (e_v (i := 2)) (o_so (e_v (i := 5))) (o_so (e_bin s_add (e_v (i := 5)) e_int)))) (e_sl (m := false) (e_v (i := 2)) (o_so (e_v (i := 4))) o_no)))) b_nil)
    (b_cons (c_if (t_cmp (s_eq g.u64) (e_v (i := 3)) e_int) (b_one (c_ret (e_bin s_add (e_sl (m := false) (e_v (i := 2)) o_no (o_so (e_v (i := 4)))) (e_sl (m := false) (e_v (i := 2)) (o_so (e_bin s_add (e_v (i := 4)) e_int)) o_no)))) b_nil)
    (b_cons (c_set (i := 6) g.nd (e_ty (s_listOf (m := true)) n_list (a_cons (e_v (i := 2)) a_nil)))
    (b_cons (c_for (ws := [7]) g (i_seq (e_sl (m := false) (e_lst (a_cons (e_v (i := 4)) (a_cons (e_v (i := 5)) a_nil))) o_no (o_so (e_bin s_add e_int (e_ty s_intOf n_int (a_cons (e_cmp s_gt (e_v (i := 3)) e_int) a_nil)))))) (g_n (i := 7) g.nd) (b_one (c_if (t_cmp s_lt (e_v (i := 7)) (e_bi s_len n_len (a_cons (e_v (i := 2)) a_nil))) (b_one (c_put (e_f h_law_bent_commit g (by decide) tk (a_cons (e_v (i := 0)) (a_cons (e_v (i := 1)) (a_cons (e_ix (e_v (i := 2)) (e_v (i := 7))) a_nil)))) (e_v (i := 6)) (e_v (i := 7)))) b_nil)))
    (b_one (c_ret (e_ty s_tupOf n_tuple (a_cons (e_v (i := 6)) a_nil)))))))))))
theorem ok_law_bent {f : Addr} {fd : FuncData} (F : Fun K "_law_bent" "_law_bent" s_law_bent f fd) (hm : mg "_law_bent" = some (.ref f)) (h_law_draw : Has P w K mg base "_law_draw" 2 1 false m_law_draw) (n_len : mg "len" = none) (h_law_pick : Has P w K mg base "_law_pick" 2 2 false m_law_pick) (n_list : mg "list" = none) (n_int : mg "int" = none) (h_law_bent_commit : Has P w K mg base "_law_bent_commit" 3 3 false m_law_bent_commit) (n_tuple : mg "tuple" = none) : Has P w K mg base "_law_bent" 3 4 false m_law_bent :=
  has_of F hm (F.binds (ps := ["pool", "sizes", "commits"]) (fun _ _ _ _ _ _ us hl => match us, hl with | [_, _, _], _ => rfl)) (g_law_bent F h_law_draw n_len h_law_pick n_list n_int h_law_bent_commit n_tuple)
abbrev s_law_long_right : Stmt := topS 50
theorem sc_law_long_right : FnScope ["long"] [] (defScope s_law_long_right) := ⟨rfl, rfl, rfl, by decide +kernel, rfl, by decide +kernel, by decide +kernel⟩
theorem g_law_long_right {f : Addr} {fd : FuncData} (F : Fun K "_law_long_right" "_law_long_right" s_law_long_right f fd) (h_made_script : Has P w K mg base "made_script" 3 6 false m_made_script) (h_is_script : Has P w K mg base "is_script" 3 9 false m_is_script) (n_repr : mg "repr" = none) (hd_law_heard : IsHearF K mg "_law_heard" true "told" hl_law_heard "another" 0) {kc P_k : Addr} (kc__law_long_right : fd.code = .ref kc) (kt__law_long_right : LamX.TabB base mg kc P_k) (km__law_long_right : (P_k, ("_law_long_right.<locals>.<lambda>" : Str)) ∈ Tbs.T) (ku__law_long_right : ∀ p ∈ Tbs.T, p.1 = P_k → p.2 = ("_law_long_right.<locals>.<lambda>" : Str)) : FnG P w K mg base 10 true f fd 0 [] m_law_long_right :=
  fn_G (k := 9) (nb := true) (body := b_law_long_right) (keep := false) (n := 1) F sc_law_long_right rfl rfl rfl (fun cdv hcd A outer s H E g tk =>
    (b_cons (c_set (i := 0) g.nd (e_bin s_mulT (e_tup (a_cons (e_tup (a_cons e_int a_nil)) (a_cons (e_tup (a_cons e_int a_nil)) a_nil))) e_int))
    (b_cons (c_if (PW.pt (w_or (t_cmp (s_ne g.u64) (e_f h_made_script g (by decide) tk (a_cons (e_tup (a_cons e_int (a_cons e_int (a_cons e_int (a_cons e_int (a_cons e_int (a_cons e_int a_nil))))))) (a_cons (e_tup a_nil) (a_cons (e_v (i := 0)) a_nil)))) (e_v (i := 0))) (w_or1 (t_cmp s_isn (e_f h_is_script g (by decide) tk (a_cons (e_tup (a_cons e_int (a_cons e_int (a_cons e_int (a_cons e_int (a_cons e_int (a_cons e_int a_nil))))))) (a_cons (e_tup a_nil) (a_cons (e_v (i := 0)) a_nil)))) e_bl)))) (b_one (c_ret e_bl)) b_nil)
    (b_one (c_ret (e_cmp (s_eq g.u64) (e_bi (s_repr (g.gd rfl) g.u66) n_repr (a_cons (e_hearF g hd_law_heard ⟨⟨_, _, hcd.symm.trans kc__law_long_right, kt__law_long_right, km__law_long_right, ku__law_long_right⟩⟩ (LamX.lamS_by (sc := defScope s_law_long_right) (by decide +kernel)) (fun A1 outer1 s1 H1 E1 f1 c1 g1 tk1 => (e_f h_made_script g1 (by decide) tk1 (a_cons (e_tup (a_cons e_int (a_cons e_int (a_cons e_int (a_cons e_int (a_cons e_int (a_cons e_int a_nil))))))) (a_cons (e_tup a_nil) (a_cons (e_bin s_add (e_v (i := 0)) (e_tup (a_cons (e_tup (a_cons e_int a_nil)) a_nil))) a_nil)))))) a_nil)) (e_bi (s_repr (g.gd rfl) g.u66) n_repr (a_cons (e_tup (a_cons e_str (a_cons (e_un s_neg e_int) (a_cons e_bl a_nil)))) a_nil))))))))
theorem ok_law_long_right {f : Addr} {fd : FuncData} (F : Fun K "_law_long_right" "_law_long_right" s_law_long_right f fd) (hm : mg "_law_long_right" = some (.ref f)) (h_made_script : Has P w K mg base "made_script" 3 6 false m_made_script) (h_is_script : Has P w K mg base "is_script" 3 9 false m_is_script) (n_repr : mg "repr" = none) (hd_law_heard : IsHearF K mg "_law_heard" true "told" hl_law_heard "another" 0) {kc P_k : Addr} (kc__law_long_right : fd.code = .ref kc) (kt__law_long_right : LamX.TabB base mg kc P_k) (km__law_long_right : (P_k, ("_law_long_right.<locals>.<lambda>" : Str)) ∈ Tbs.T) (ku__law_long_right : ∀ p ∈ Tbs.T, p.1 = P_k → p.2 = ("_law_long_right.<locals>.<lambda>" : Str)) : Has P w K mg base "_law_long_right" 0 10 true m_law_long_right :=
  has_of F hm (F.binds (ps := []) (fun _ _ _ _ _ _ us hl => match us, hl with | [], _ => rfl)) (g_law_long_right F h_made_script h_is_script n_repr hd_law_heard kc__law_long_right kt__law_long_right km__law_long_right ku__law_long_right)
abbrev s_law : Stmt := topS 51
theorem sc_law : FnScope ["script", "pool", "sworn", "commits", "turn", "bad", "sizes"] ["script"] (defScope s_law) := ⟨rfl, rfl, rfl, by decide +kernel, rfl, by decide +kernel, by decide +kernel⟩
theorem g_law {f : Addr} {fd : FuncData} (F : Fun K "law" "law" s_law f fd) (h_law_pool : Has P w K mg base "_law_pool" 1 1 false m_law_pool) (n_repr : mg "repr" = none) (hd_law_heard : IsHearF K mg "_law_heard" true "told" hl_law_heard "another" 0) {kc P_k : Addr} (kc_law : fd.code = .ref kc) (kt_law : LamX.TabB base mg kc P_k) (km_law : (P_k, ("law.<locals>.<lambda>" : Str)) ∈ Tbs.T) (ku_law : ∀ p ∈ Tbs.T, p.1 = P_k → p.2 = ("law.<locals>.<lambda>" : Str)) (h_made_script : Has P w K mg base "made_script" 3 6 false m_made_script) (h_law_draw : Has P w K mg base "_law_draw" 2 1 false m_law_draw) (h_law_stand_rims : Has P w K mg base "_law_stand_rims" 2 2 false m_law_stand_rims) (h_law_stand_sizes : Has P w K mg base "_law_stand_sizes" 5 3 false m_law_stand_sizes) (h_law_stand_great : Has P w K mg base "_law_stand_great" 1 3 false m_law_stand_great) (h_law_stand_sworn : Has P w K mg base "_law_stand_sworn" 2 3 false m_law_stand_sworn) (h_law_stand_script : Has P w K mg base "_law_stand_script" 4 4 false m_law_stand_script) (h_law_right : Has P w K mg base "_law_right" 3 10 true m_law_right) (n_range : mg "range" = none) (h_law_bent : Has P w K mg base "_law_bent" 3 4 false m_law_bent) (h_law_pick : Has P w K mg base "_law_pick" 2 2 false m_law_pick) (h_is_script : Has P w K mg base "is_script" 3 9 false m_is_script) (h_law_long_right : Has P w K mg base "_law_long_right" 0 10 true m_law_long_right) : FnG P w K mg base 11 true f fd 1 ["script"] m_law :=
  fn_G (k := 10) (nb := true) (body := b_law) (keep := false) (n := 7) F sc_law rfl rfl rfl (fun cdv hcd A outer s H E g tk =>
    (b_cons (c_set (i := 1) g.nd (e_f h_law_pool g (by decide) tk (a_cons (e_v (i := 0)) a_nil)))
    (b_cons (c_if (t_cmp (s_ne g.u64) (e_bi (s_repr (g.gd rfl) g.u66) n_repr (a_cons (e_hearF g hd_law_heard ⟨⟨_, _, hcd.symm.trans kc_law, kt_law, km_law, ku_law⟩⟩ (LamX.lamS_by (sc := defScope s_law) (by decide +kernel)) (fun A1 outer1 s1 H1 E1 f1 c1 g1 tk1 => (e_f h_made_script g1 (by decide) tk1 (a_cons (e_tup (a_cons e_int (a_cons e_int (a_cons e_int (a_cons e_int (a_cons e_int (a_cons e_int a_nil))))))) (a_cons (e_tup a_nil) (a_cons (e_tup (a_cons (e_tup (a_cons e_int a_nil)) (a_cons (e_tup (a_cons e_int a_nil)) a_nil))) a_nil)))))) a_nil)) (e_bi (s_repr (g.gd rfl) g.u66) n_repr (a_cons (e_tup (a_cons e_str (a_cons e_int (a_cons e_bl a_nil)))) a_nil))) (b_one (c_ret e_bl)) b_nil)
    (b_cons (c_set (i := 6) g.nd (e_if (t_cmp (s_eq g.u64) (e_f h_law_draw g (by decide) tk (a_cons (e_v (i := 1)) (a_cons e_int a_nil))) e_int) (e_f h_law_stand_rims g (by decide) tk (a_cons (e_v (i := 1)) (a_cons e_int a_nil))) (e_f h_law_stand_sizes g (by decide) tk (a_cons (e_v (i := 1)) (a_cons e_int (a_cons e_int (a_cons e_int (a_cons e_int a_nil))))))))
    (b_cons (c_if (t_cmp (s_eq g.u64) (e_f h_law_draw g (by decide) tk (a_cons (e_v (i := 1)) (a_cons e_int a_nil))) e_int) (b_one (c_set (i := 6) g.nd (e_f h_law_stand_great g (by decide) tk (a_cons (e_v (i := 1)) a_nil)))) b_nil)
    (b_cons (c_if (t_cmp (s_eq g.u64) (e_f h_law_draw g (by decide) tk (a_cons (e_v (i := 1)) (a_cons e_int a_nil))) e_int) (b_one (c_set (i := 6) g.nd (e_tup (a_cons (e_bin s_add e_int (e_f h_law_draw g (by decide) tk (a_cons (e_v (i := 1)) (a_cons e_int a_nil)))) (a_cons e_int (a_cons e_int (a_cons e_int (a_cons e_int (a_cons e_int a_nil))))))))) b_nil)
    (b_cons (c_set (i := 2) g.nd (e_f h_law_stand_sworn g (by decide) tk (a_cons (e_v (i := 1)) (a_cons (e_v (i := 6)) a_nil))))
    (b_cons (c_set (i := 3) g.nd (e_f h_law_stand_script g (by decide) tk (a_cons (e_v (i := 1)) (a_cons (e_v (i := 6)) (a_cons (e_v (i := 2)) (a_cons (e_f h_law_draw g (by decide) tk (a_cons (e_v (i := 1)) (a_cons e_int a_nil))) a_nil))))))
    (b_cons (c_if (PW.pt (w_or (t_not (t_v (e_f h_law_right g (by decide) tk (a_cons (e_v (i := 6)) (a_cons (e_v (i := 2)) (a_cons (e_v (i := 3)) a_nil)))))) (w_or1 (t_not (t_v (e_f h_law_right g (by decide) tk (a_cons (e_v (i := 6)) (a_cons (e_v (i := 2)) (a_cons (e_tup a_nil) a_nil))))))))) (b_one (c_ret e_bl)) b_nil)
    (b_cons (c_for (ws := [4]) g (i_rng1 n_range (a_cons e_int a_nil)) (g_n (i := 4) g.nd) (b_one (c_if (t_not (t_v (e_f h_law_right g (by decide) tk (a_cons (e_v (i := 6)) (a_cons (e_v (i := 2)) (a_cons (e_f h_law_bent g (by decide) tk (a_cons (e_v (i := 1)) (a_cons (e_v (i := 6)) (a_cons (e_v (i := 3)) a_nil)))) a_nil)))))) (b_one (c_ret e_bl)) b_nil)))
    (b_cons (c_set (i := 5) g.nd (e_f h_law_pick g (by decide) tk (a_cons (e_v (i := 1)) (a_cons (e_lst (a_cons e_non (a_cons (e_sl (m := false) (e_v (i := 6)) o_no (o_so e_int)) (a_cons (e_bin s_add (e_tup (a_cons e_int a_nil)) (e_sl (m := false) (e_v (i := 6)) (o_so e_int) o_no)) a_nil)))) a_nil))))
    (b_cons (c_if (PW.pt (w_or (t_cmp (s_ne g.u64) (e_ix (e_hearF g hd_law_heard ⟨⟨_, _, hcd.symm.trans kc_law, kt_law, km_law, ku_law⟩⟩ (LamX.lamS_by (sc := defScope s_law) (by decide +kernel)) (fun A1 outer1 s1 H1 E1 f1 c1 g1 tk1 => (e_f h_made_script g1 (by decide) tk1 (a_cons (e_v (i := 5)) (a_cons e_non (a_cons e_non a_nil)))))) e_int) e_str) (w_or1 (t_cmp s_isn (e_f h_is_script g (by decide) tk (a_cons (e_v (i := 5)) (a_cons (e_tup a_nil) (a_cons (e_tup a_nil) a_nil)))) e_bl)))) (b_one (c_ret e_bl)) b_nil)
    (b_cons (c_if (t_cmp (s_ne g.u64) (e_bi (s_repr (g.gd rfl) g.u66) n_repr (a_cons (e_hearF g hd_law_heard ⟨⟨_, _, hcd.symm.trans kc_law, kt_law, km_law, ku_law⟩⟩ (LamX.lamS_by (sc := defScope s_law) (by decide +kernel)) (fun A1 outer1 s1 H1 E1 f1 c1 g1 tk1 => (e_f h_made_script g1 (by decide) tk1 (a_cons (e_v (i := 6)) (a_cons e_non (a_cons e_non a_nil)))))) a_nil)) (e_bi (s_repr (g.gd rfl) g.u66) n_repr (a_cons (e_tup (a_cons e_str (a_cons (e_un s_neg e_int) (a_cons e_bl a_nil)))) a_nil))) (b_one (c_ret e_bl)) b_nil)
    (b_cons (c_if (t_cmp s_isn (e_f h_is_script g (by decide) tk (a_cons (e_v (i := 6)) (a_cons e_non (a_cons (e_tup a_nil) a_nil)))) e_bl) (b_one (c_ret e_bl)) b_nil)
    (b_one (c_ret (e_or (e_cmp s_gt (e_f h_law_draw g (by decide) tk (a_cons (e_v (i := 1)) (a_cons e_int a_nil))) e_int) (e_one (e_f0 h_law_long_right g (by decide) tk)))))))))))))))))))
theorem ok_law {f : Addr} {fd : FuncData} (F : Fun K "law" "law" s_law f fd) (hm : mg "law" = some (.ref f)) (h_law_pool : Has P w K mg base "_law_pool" 1 1 false m_law_pool) (n_repr : mg "repr" = none) (hd_law_heard : IsHearF K mg "_law_heard" true "told" hl_law_heard "another" 0) {kc P_k : Addr} (kc_law : fd.code = .ref kc) (kt_law : LamX.TabB base mg kc P_k) (km_law : (P_k, ("law.<locals>.<lambda>" : Str)) ∈ Tbs.T) (ku_law : ∀ p ∈ Tbs.T, p.1 = P_k → p.2 = ("law.<locals>.<lambda>" : Str)) (h_made_script : Has P w K mg base "made_script" 3 6 false m_made_script) (h_law_draw : Has P w K mg base "_law_draw" 2 1 false m_law_draw) (h_law_stand_rims : Has P w K mg base "_law_stand_rims" 2 2 false m_law_stand_rims) (h_law_stand_sizes : Has P w K mg base "_law_stand_sizes" 5 3 false m_law_stand_sizes) (h_law_stand_great : Has P w K mg base "_law_stand_great" 1 3 false m_law_stand_great) (h_law_stand_sworn : Has P w K mg base "_law_stand_sworn" 2 3 false m_law_stand_sworn) (h_law_stand_script : Has P w K mg base "_law_stand_script" 4 4 false m_law_stand_script) (h_law_right : Has P w K mg base "_law_right" 3 10 true m_law_right) (n_range : mg "range" = none) (h_law_bent : Has P w K mg base "_law_bent" 3 4 false m_law_bent) (h_law_pick : Has P w K mg base "_law_pick" 2 2 false m_law_pick) (h_is_script : Has P w K mg base "is_script" 3 9 false m_is_script) (h_law_long_right : Has P w K mg base "_law_long_right" 0 10 true m_law_long_right) : Has P w K mg base "law" 1 11 true m_law :=
  has_of F hm (F.binds (ps := ["script"]) (fun _ _ _ _ _ _ us hl => match us, hl with | [_], _ => rfl)) (g_law F h_law_pool n_repr hd_law_heard kc_law kt_law km_law ku_law h_made_script h_law_draw h_law_stand_rims h_law_stand_sizes h_law_stand_great h_law_stand_sworn h_law_stand_script h_law_right n_range h_law_bent h_law_pick h_is_script h_law_long_right)
end
end MV

set_option Elab.async false
set_option linter.all false
set_option maxRecDepth 100000
set_option maxHeartbeats 4000000
namespace MV
open PySem PySem.Spec PyProof.Rows L2
abbrev s_init : Stmt := inCls (topS 1) 0
theorem sc_init : FnScope ["self", "what"] ["self", "what"] (defScope s_init) := ⟨rfl, rfl, rfl, by decide +kernel, rfl, by decide +kernel, by decide +kernel⟩
theorem vis_init0 : Vis (defScope s_init) "self" := .inl rfl
theorem vis_init1 : Vis (defScope s_init) "what" := .inl rfl
abbrev s_is_let : Stmt := topS 17
theorem sc_is_let : FnScope ["call"] ["call"] (defScope s_is_let) := ⟨rfl, rfl, rfl, by decide +kernel, rfl, by decide +kernel, by decide +kernel⟩
theorem vis_is_let : Vis (defScope s_is_let) "call" := .inl rfl
abbrev s_law_heard : Stmt := topS 44
theorem sc_law_heard : FnScope ["call", "error", "found"] ["call"] (defScope s_law_heard) := ⟨rfl, rfl, rfl, by decide +kernel, rfl, by decide +kernel, by decide +kernel⟩
theorem vis_law_heard : Vis (defScope s_law_heard) "call" := .inl rfl
theorem all_mk {l : PySem.W.OpenLaw} {w : World} {K : PySem.W.Frag} {h : Heap} {mg : Str → Option Value} {fa : Addr} (X : K.In h) (G : h.Ns mainGlobals mg) (hfa : mg "law" = some (.ref fa))
    {t_BOUNDS_1 : Addr} {od_t_BOUNDS_1 : Option Addr} {n_t_BOUNDS_1 : Nat} {sl_t_BOUNDS_1 : Array (Option Value)}
    {t_BOUNDS_2 : Addr} {od_t_BOUNDS_2 : Option Addr} {n_t_BOUNDS_2 : Nat} {sl_t_BOUNDS_2 : Array (Option Value)}
    {u_BOUNDS_3 : Tok}
    {u_BOUNDS_4 : Tok}
    {t_BOUNDS_5 : Addr} {od_t_BOUNDS_5 : Option Addr} {n_t_BOUNDS_5 : Nat} {sl_t_BOUNDS_5 : Array (Option Value)}
    {u_BOUNDS_6 : Tok}
    {u_BOUNDS_7 : Tok}
    {t_BOUNDS_8 : Addr} {od_t_BOUNDS_8 : Option Addr} {n_t_BOUNDS_8 : Nat} {sl_t_BOUNDS_8 : Array (Option Value)}
    {u_BOUNDS_9 : Tok}
    {u_BOUNDS_10 : Tok}
    {t_BOUNDS_11 : Addr} {od_t_BOUNDS_11 : Option Addr} {n_t_BOUNDS_11 : Nat} {sl_t_BOUNDS_11 : Array (Option Value)}
    {u_BOUNDS_12 : Tok}
    {u_BOUNDS_13 : Tok}
    {t_BOUNDS_14 : Addr} {od_t_BOUNDS_14 : Option Addr} {n_t_BOUNDS_14 : Nat} {sl_t_BOUNDS_14 : Array (Option Value)}
    {u_BOUNDS_15 : Tok}
    {u_BOUNDS_16 : Tok}
    {t_BOUNDS_17 : Addr} {od_t_BOUNDS_17 : Option Addr} {n_t_BOUNDS_17 : Nat} {sl_t_BOUNDS_17 : Array (Option Value)}
    {u_BOUNDS_18 : Tok}
    {u_BOUNDS_19 : Tok}
    {u_MOST_BLOCKS_1 : Tok}
    {u_MOST_COMMITS_1 : Tok}
    {f_init : Addr} {od_init an_init : Option Addr} {sl_init : Array (Option Value)} {oc_init kV_init dc_init pm_init cd_init ct_init : Value}
    {C_BadSworn : Addr}
    {C_FewRecords : Addr}
    {C_BadSizes : Addr}
    {C_FewSpares : Addr}
    {C_TooMany : Addr}
    {C_BadScript : Addr}
    {C_Sworn : Addr}
    {C_Gap : Addr}
    {C_Refused : Addr}
    {f_is_let : Addr} {od_is_let an_is_let : Option Addr} {sl_is_let : Array (Option Value)} {oc_is_let kV_is_let dc_is_let pm_is_let cd_is_let ct_is_let : Value}
    {f_law_heard : Addr} {od_law_heard an_law_heard : Option Addr} {sl_law_heard : Array (Option Value)} {oc_law_heard kV_law_heard dc_law_heard pm_law_heard cd_law_heard ct_law_heard : Value}
    {f_law_pool : Addr} {od_law_pool an_law_pool : Option Addr} {sl_law_pool : Array (Option Value)} {oc_law_pool kV_law_pool dc_law_pool pm_law_pool cd_law_pool ct_law_pool : Value}
    {f_is_number : Addr} {od_is_number an_is_number : Option Addr} {sl_is_number : Array (Option Value)} {oc_is_number kV_is_number dc_is_number pm_is_number cd_is_number ct_is_number : Value}
    {f_is_tuple_of : Addr} {od_is_tuple_of an_is_tuple_of : Option Addr} {sl_is_tuple_of : Array (Option Value)} {oc_is_tuple_of kV_is_tuple_of dc_is_tuple_of pm_is_tuple_of cd_is_tuple_of ct_is_tuple_of : Value}
    {f_drawn_of : Addr} {od_drawn_of an_drawn_of : Option Addr} {sl_drawn_of : Array (Option Value)} {oc_drawn_of kV_drawn_of dc_drawn_of pm_drawn_of cd_drawn_of ct_drawn_of : Value}
    {f_blocks_of : Addr} {od_blocks_of an_blocks_of : Option Addr} {sl_blocks_of : Array (Option Value)} {oc_blocks_of kV_blocks_of dc_blocks_of pm_blocks_of cd_blocks_of ct_blocks_of : Value}
    {f_first_of : Addr} {od_first_of an_first_of : Option Addr} {sl_first_of : Array (Option Value)} {oc_first_of kV_first_of dc_first_of pm_first_of cd_first_of ct_first_of : Value}
    {f_resting : Addr} {od_resting an_resting : Option Addr} {sl_resting : Array (Option Value)} {oc_resting kV_resting dc_resting pm_resting cd_resting ct_resting : Value}
    {f_law_draw : Addr} {od_law_draw an_law_draw : Option Addr} {sl_law_draw : Array (Option Value)} {oc_law_draw kV_law_draw dc_law_draw pm_law_draw cd_law_draw ct_law_draw : Value}
    {f_law_stand_may : Addr} {od_law_stand_may an_law_stand_may : Option Addr} {sl_law_stand_may : Array (Option Value)} {oc_law_stand_may kV_law_stand_may dc_law_stand_may pm_law_stand_may cd_law_stand_may ct_law_stand_may : Value}
    {f_law_stand_behind : Addr} {od_law_stand_behind an_law_stand_behind : Option Addr} {sl_law_stand_behind : Array (Option Value)} {oc_law_stand_behind kV_law_stand_behind dc_law_stand_behind pm_law_stand_behind cd_law_stand_behind ct_law_stand_behind : Value}
    {f_law_is_form : Addr} {od_law_is_form an_law_is_form : Option Addr} {sl_law_is_form : Array (Option Value)} {oc_law_is_form kV_law_is_form dc_law_is_form pm_law_is_form cd_law_is_form ct_law_is_form : Value}
    {f_is_between : Addr} {od_is_between an_is_between : Option Addr} {sl_is_between : Array (Option Value)} {oc_is_between kV_is_between dc_is_between pm_is_between cd_is_between ct_is_between : Value}
    {f_law_stand_rims : Addr} {od_law_stand_rims an_law_stand_rims : Option Addr} {sl_law_stand_rims : Array (Option Value)} {oc_law_stand_rims kV_law_stand_rims dc_law_stand_rims pm_law_stand_rims cd_law_stand_rims ct_law_stand_rims : Value}
    {f_law_pick : Addr} {od_law_pick an_law_pick : Option Addr} {sl_law_pick : Array (Option Value)} {oc_law_pick kV_law_pick dc_law_pick pm_law_pick cd_law_pick ct_law_pick : Value}
    {f_law_turned : Addr} {od_law_turned an_law_turned : Option Addr} {sl_law_turned : Array (Option Value)} {oc_law_turned kV_law_turned dc_law_turned pm_law_turned cd_law_turned ct_law_turned : Value}
    {f_law_wrong : Addr} {od_law_wrong an_law_wrong : Option Addr} {sl_law_wrong : Array (Option Value)} {oc_law_wrong kV_law_wrong dc_law_wrong pm_law_wrong cd_law_wrong ct_law_wrong : Value}
    {f_check_sworn : Addr} {od_check_sworn an_check_sworn : Option Addr} {sl_check_sworn : Array (Option Value)} {oc_check_sworn kV_check_sworn dc_check_sworn pm_check_sworn cd_check_sworn ct_check_sworn : Value}
    {f_made_sizes : Addr} {od_made_sizes an_made_sizes : Option Addr} {sl_made_sizes : Array (Option Value)} {oc_made_sizes kV_made_sizes dc_made_sizes pm_made_sizes cd_made_sizes ct_made_sizes : Value}
    {f_is_rising : Addr} {od_is_rising an_is_rising : Option Addr} {sl_is_rising : Array (Option Value)} {oc_is_rising kV_is_rising dc_is_rising pm_is_rising cd_is_rising ct_is_rising : Value}
    {f_law_stand_sizes : Addr} {od_law_stand_sizes an_law_stand_sizes : Option Addr} {sl_law_stand_sizes : Array (Option Value)} {oc_law_stand_sizes kV_law_stand_sizes dc_law_stand_sizes pm_law_stand_sizes cd_law_stand_sizes ct_law_stand_sizes : Value}
    {f_law_stand_great : Addr} {od_law_stand_great an_law_stand_great : Option Addr} {sl_law_stand_great : Array (Option Value)} {oc_law_stand_great kV_law_stand_great dc_law_stand_great pm_law_stand_great cd_law_stand_great ct_law_stand_great : Value}
    {f_law_stand_sworn : Addr} {od_law_stand_sworn an_law_stand_sworn : Option Addr} {sl_law_stand_sworn : Array (Option Value)} {oc_law_stand_sworn kV_law_stand_sworn dc_law_stand_sworn pm_law_stand_sworn cd_law_stand_sworn ct_law_stand_sworn : Value}
    {f_law_stand_asked : Addr} {od_law_stand_asked an_law_stand_asked : Option Addr} {sl_law_stand_asked : Array (Option Value)} {oc_law_stand_asked kV_law_stand_asked dc_law_stand_asked pm_law_stand_asked cd_law_stand_asked ct_law_stand_asked : Value}
    {f_law_bent_commit : Addr} {od_law_bent_commit an_law_bent_commit : Option Addr} {sl_law_bent_commit : Array (Option Value)} {oc_law_bent_commit kV_law_bent_commit dc_law_bent_commit pm_law_bent_commit cd_law_bent_commit ct_law_bent_commit : Value}
    {f_made_sworn : Addr} {od_made_sworn an_made_sworn : Option Addr} {sl_made_sworn : Array (Option Value)} {oc_made_sworn kV_made_sworn dc_made_sworn pm_made_sworn cd_made_sworn ct_made_sworn : Value}
    {f_is_commit_form : Addr} {od_is_commit_form an_is_commit_form : Option Addr} {sl_is_commit_form : Array (Option Value)} {oc_is_commit_form kV_is_commit_form dc_is_commit_form pm_is_commit_form cd_is_commit_form ct_is_commit_form : Value}
    {f_law_stand_script : Addr} {od_law_stand_script an_law_stand_script : Option Addr} {sl_law_stand_script : Array (Option Value)} {oc_law_stand_script kV_law_stand_script dc_law_stand_script pm_law_stand_script cd_law_stand_script ct_law_stand_script : Value}
    {f_law_bent : Addr} {od_law_bent an_law_bent : Option Addr} {sl_law_bent : Array (Option Value)} {oc_law_bent kV_law_bent dc_law_bent pm_law_bent cd_law_bent ct_law_bent : Value}
    {f_check_script : Addr} {od_check_script an_check_script : Option Addr} {sl_check_script : Array (Option Value)} {oc_check_script kV_check_script dc_check_script pm_check_script cd_check_script ct_check_script : Value}
    {f_made_script : Addr} {od_made_script an_made_script : Option Addr} {sl_made_script : Array (Option Value)} {oc_made_script kV_made_script dc_made_script pm_made_script cd_made_script ct_made_script : Value}
    {f_is_script : Addr} {od_is_script an_is_script : Option Addr} {sl_is_script : Array (Option Value)} {oc_is_script kV_is_script dc_is_script pm_is_script cd_is_script ct_is_script : Value}
    {kc_is_script P_is_script : Addr} {ko_is_script : Option Addr} {kvs_is_script : Array Value} {ks_is_script : Array (Option Value)}
    {f_law_right : Addr} {od_law_right an_law_right : Option Addr} {sl_law_right : Array (Option Value)} {oc_law_right kV_law_right dc_law_right pm_law_right cd_law_right ct_law_right : Value}
    {kc_law_right P_law_right : Addr} {ko_law_right : Option Addr} {kvs_law_right : Array Value} {ks_law_right : Array (Option Value)}
    {f_law_long_right : Addr} {od_law_long_right an_law_long_right : Option Addr} {sl_law_long_right : Array (Option Value)} {oc_law_long_right kV_law_long_right dc_law_long_right pm_law_long_right cd_law_long_right ct_law_long_right : Value}
    {kc_law_long_right P_law_long_right : Addr} {ko_law_long_right : Option Addr} {kvs_law_long_right : Array Value} {ks_law_long_right : Array (Option Value)}
    {f_law : Addr} {od_law an_law : Option Addr} {sl_law : Array (Option Value)} {oc_law kV_law dc_law pm_law cd_law ct_law : Value}
    {kc_law P_law : Addr} {ko_law : Option Addr} {kvs_law : Array Value} {ks_law : Array (Option Value)}
    (z_len : PySem.W.nsIn K mainGlobals "len" = some none)
    (z_int : PySem.W.nsIn K mainGlobals "int" = some none)
    (z_list : PySem.W.nsIn K mainGlobals "list" = some none)
    (z_isinstance : PySem.W.nsIn K mainGlobals "isinstance" = some none)
    (z_bool : PySem.W.nsIn K mainGlobals "bool" = some none)
    (z_tuple : PySem.W.nsIn K mainGlobals "tuple" = some none)
    (z_range : PySem.W.nsIn K mainGlobals "range" = some none)
    (a_BOUNDS : PySem.W.nsIn K mainGlobals "BOUNDS" = some (some (.ref t_BOUNDS_1)))
    (q_t_BOUNDS_1 : K.lookup t_BOUNDS_1 = some ⟨.type "tuple", od_t_BOUNDS_1, .seq #[.ref t_BOUNDS_2, .ref t_BOUNDS_5, .ref t_BOUNDS_8, .ref t_BOUNDS_11, .ref t_BOUNDS_14, .ref t_BOUNDS_17] n_t_BOUNDS_1, sl_t_BOUNDS_1⟩)
    (q_t_BOUNDS_2 : K.lookup t_BOUNDS_2 = some ⟨.type "tuple", od_t_BOUNDS_2, .seq #[.int 1 u_BOUNDS_3, .int 40 u_BOUNDS_4] n_t_BOUNDS_2, sl_t_BOUNDS_2⟩)
    (q_t_BOUNDS_5 : K.lookup t_BOUNDS_5 = some ⟨.type "tuple", od_t_BOUNDS_5, .seq #[.int 1 u_BOUNDS_6, .int 6 u_BOUNDS_7] n_t_BOUNDS_5, sl_t_BOUNDS_5⟩)
    (q_t_BOUNDS_8 : K.lookup t_BOUNDS_8 = some ⟨.type "tuple", od_t_BOUNDS_8, .seq #[.int 1 u_BOUNDS_9, .int 60 u_BOUNDS_10] n_t_BOUNDS_8, sl_t_BOUNDS_8⟩)
    (q_t_BOUNDS_11 : K.lookup t_BOUNDS_11 = some ⟨.type "tuple", od_t_BOUNDS_11, .seq #[.int 1 u_BOUNDS_12, .int 10000 u_BOUNDS_13] n_t_BOUNDS_11, sl_t_BOUNDS_11⟩)
    (q_t_BOUNDS_14 : K.lookup t_BOUNDS_14 = some ⟨.type "tuple", od_t_BOUNDS_14, .seq #[.int 1 u_BOUNDS_15, .int 8 u_BOUNDS_16] n_t_BOUNDS_14, sl_t_BOUNDS_14⟩)
    (q_t_BOUNDS_17 : K.lookup t_BOUNDS_17 = some ⟨.type "tuple", od_t_BOUNDS_17, .seq #[.int 0 u_BOUNDS_18, .int 8 u_BOUNDS_19] n_t_BOUNDS_17, sl_t_BOUNDS_17⟩)
    (a_MOST_BLOCKS : PySem.W.nsIn K mainGlobals "MOST_BLOCKS" = some (some (.int 60 u_MOST_BLOCKS_1)))
    (z_max : PySem.W.nsIn K mainGlobals "max" = some none)
    (a_MOST_COMMITS : PySem.W.nsIn K mainGlobals "MOST_COMMITS" = some (some (.int 2000 u_MOST_COMMITS_1)))
    (z_sorted : PySem.W.nsIn K mainGlobals "sorted" = some none)
    (z_enumerate : PySem.W.nsIn K mainGlobals "enumerate" = some none)
    (z_repr : PySem.W.nsIn K mainGlobals "repr" = some none)
    (a_BadSworn : PySem.W.nsIn K mainGlobals "BadSworn" = some (some (.ref C_BadSworn)))
    (e_BadSworn : ExK K C_BadSworn f_init)
    (a_FewRecords : PySem.W.nsIn K mainGlobals "FewRecords" = some (some (.ref C_FewRecords)))
    (e_FewRecords : ExK K C_FewRecords f_init)
    (a_BadSizes : PySem.W.nsIn K mainGlobals "BadSizes" = some (some (.ref C_BadSizes)))
    (e_BadSizes : ExK K C_BadSizes f_init)
    (a_FewSpares : PySem.W.nsIn K mainGlobals "FewSpares" = some (some (.ref C_FewSpares)))
    (e_FewSpares : ExK K C_FewSpares f_init)
    (a_TooMany : PySem.W.nsIn K mainGlobals "TooMany" = some (some (.ref C_TooMany)))
    (e_TooMany : ExK K C_TooMany f_init)
    (a_BadScript : PySem.W.nsIn K mainGlobals "BadScript" = some (some (.ref C_BadScript)))
    (e_BadScript : ExK K C_BadScript f_init)
    (a_Sworn : PySem.W.nsIn K mainGlobals "Sworn" = some (some (.ref C_Sworn)))
    (e_Sworn : ExK K C_Sworn f_init)
    (a_Gap : PySem.W.nsIn K mainGlobals "Gap" = some (some (.ref C_Gap)))
    (e_Gap : ExK K C_Gap f_init)
    (a_Refused : PySem.W.nsIn K mainGlobals "Refused" = some (some (.ref C_Refused)))
    (e_Refused : ExK K C_Refused f_init)
    (l_init : K.lookup f_init = some ⟨oc_init, od_init, .func (PySem.W.fnOf "__init__" "Refused.__init__" (defArgs s_init) (defBody s_init) (defScope s_init) .none kV_init dc_init pm_init an_init cd_init ct_init), sl_init⟩)
    (c1_init : PySem.W.codeIn K cd_init "Refused.__init__" = true)
    (k1_init : PySem.W.keepIn K (.ref f_init) = true)
    (t1_init : PySem.W.typeIn K (.ref f_init) = some (.type "function"))
    (b1_R : PySem.W.subIn K (.ref C_Refused) (.type "BaseException") = some true)
    (b2_R : PySem.W.isClsIn K C_Refused = true)
    (b3_R : PySem.W.typeIn K (.ref C_Refused) = some (.type "type"))
    (s_Refused : PySem.W.subIn K (.ref C_Refused) (.ref C_Refused) = some true)
    (s_BadSizes : PySem.W.subIn K (.ref C_BadSizes) (.ref C_Refused) = some true)
    (s_FewSpares : PySem.W.subIn K (.ref C_FewSpares) (.ref C_Refused) = some true)
    (s_FewRecords : PySem.W.subIn K (.ref C_FewRecords) (.ref C_Refused) = some true)
    (s_TooMany : PySem.W.subIn K (.ref C_TooMany) (.ref C_Refused) = some true)
    (s_BadSworn : PySem.W.subIn K (.ref C_BadSworn) (.ref C_Refused) = some true)
    (z_BadMany : PySem.W.nsIn K mainGlobals "BadMany" = some none)
    (z_BadFlag : PySem.W.nsIn K mainGlobals "BadFlag" = some none)
    (z_BadCommit : PySem.W.nsIn K mainGlobals "BadCommit" = some none)
    (s_Sworn : PySem.W.subIn K (.ref C_Sworn) (.ref C_Refused) = some true)
    (s_Gap : PySem.W.subIn K (.ref C_Gap) (.ref C_Refused) = some true)
    (s_BadScript : PySem.W.subIn K (.ref C_BadScript) (.ref C_Refused) = some true)
    (z_BadLast : PySem.W.nsIn K mainGlobals "BadLast" = some none)
    (z_BadBoard : PySem.W.nsIn K mainGlobals "BadBoard" = some none)
    (z_BadStand : PySem.W.nsIn K mainGlobals "BadStand" = some none)
    (z_BadRecord : PySem.W.nsIn K mainGlobals "BadRecord" = some none)
    (z_BadStep : PySem.W.nsIn K mainGlobals "BadStep" = some none)
    (z_NotFree : PySem.W.nsIn K mainGlobals "NotFree" = some none)
    (z_Spent : PySem.W.nsIn K mainGlobals "Spent" = some none)
    (z_Empty : PySem.W.nsIn K mainGlobals "Empty" = some none)
    (z_BadLog : PySem.W.nsIn K mainGlobals "BadLog" = some none)
    (z_BadHabit : PySem.W.nsIn K mainGlobals "BadHabit" = some none)
    (z_Stopped : PySem.W.nsIn K mainGlobals "Stopped" = some none)
    (z_FewBlocks : PySem.W.nsIn K mainGlobals "FewBlocks" = some none)
    (z_BadLot : PySem.W.nsIn K mainGlobals "BadLot" = some none)
    (z_NothingBack : PySem.W.nsIn K mainGlobals "NothingBack" = some none)
    (z_NothingAgain : PySem.W.nsIn K mainGlobals "NothingAgain" = some none)
    (z_BadImage : PySem.W.nsIn K mainGlobals "BadImage" = some none)
    (z_Unlike : PySem.W.nsIn K mainGlobals "Unlike" = some none)
    (z_Lost : PySem.W.nsIn K mainGlobals "Lost" = some none)
    (z_BadWorths : PySem.W.nsIn K mainGlobals "BadWorths" = some none)
    (z_BadBlocks : PySem.W.nsIn K mainGlobals "BadBlocks" = some none)
    (z_BadBlock : PySem.W.nsIn K mainGlobals "BadBlock" = some none)
    (z_BadWrites : PySem.W.nsIn K mainGlobals "BadWrites" = some none)
    (z_BadText : PySem.W.nsIn K mainGlobals "BadText" = some none)
    (z_Twice : PySem.W.nsIn K mainGlobals "Twice" = some none)
    (z_TooDeep : PySem.W.nsIn K mainGlobals "TooDeep" = some none)
    (z_Long : PySem.W.nsIn K mainGlobals "Long" = some none)
    (z_NoSizes : PySem.W.nsIn K mainGlobals "NoSizes" = some none)
    (z_NoStore : PySem.W.nsIn K mainGlobals "NoStore" = some none)
    (a_is_let : PySem.W.nsIn K mainGlobals "is_let" = some (some (.ref f_is_let)))
    (l_is_let : K.lookup f_is_let = some ⟨oc_is_let, od_is_let, .func (PySem.W.fnOf "is_let" "is_let" (defArgs s_is_let) (defBody s_is_let) (defScope s_is_let) .none kV_is_let dc_is_let pm_is_let an_is_let cd_is_let ct_is_let), sl_is_let⟩)
    (c1_is_let : PySem.W.codeIn K cd_is_let "is_let" = true)
    (k1_is_let : PySem.W.keepIn K (.ref f_is_let) = true)
    (a_law_heard : PySem.W.nsIn K mainGlobals "_law_heard" = some (some (.ref f_law_heard)))
    (l_law_heard : K.lookup f_law_heard = some ⟨oc_law_heard, od_law_heard, .func (PySem.W.fnOf "_law_heard" "_law_heard" (defArgs s_law_heard) (defBody s_law_heard) (defScope s_law_heard) .none kV_law_heard dc_law_heard pm_law_heard an_law_heard cd_law_heard ct_law_heard), sl_law_heard⟩)
    (c1_law_heard : PySem.W.codeIn K cd_law_heard "_law_heard" = true)
    (k1_law_heard : PySem.W.keepIn K (.ref f_law_heard) = true)
    (z_ValueError : PySem.W.nsIn K mainGlobals "ValueError" = some none)
    (ie_Sworn : PySem.W.findIn K (.ref C_Sworn) "__class__" = some (some (.builtin "object.__class__")))
    (im_Sworn : PySem.W.mroIn K C_Sworn (.type "object") = some true)
    (kr_Sworn : PySem.W.kitOne K (.ref C_Sworn) (.ref C_Refused) = some true)
    (kv_Sworn : PySem.W.kitOne K (.ref C_Sworn) (.type "ValueError") = some true)
    (ie_Gap : PySem.W.findIn K (.ref C_Gap) "__class__" = some (some (.builtin "object.__class__")))
    (im_Gap : PySem.W.mroIn K C_Gap (.type "object") = some true)
    (kr_Gap : PySem.W.kitOne K (.ref C_Gap) (.ref C_Refused) = some true)
    (kv_Gap : PySem.W.kitOne K (.ref C_Gap) (.type "ValueError") = some true)
    (ie_BadSworn : PySem.W.findIn K (.ref C_BadSworn) "__class__" = some (some (.builtin "object.__class__")))
    (im_BadSworn : PySem.W.mroIn K C_BadSworn (.type "object") = some true)
    (kr_BadSworn : PySem.W.kitOne K (.ref C_BadSworn) (.ref C_Refused) = some true)
    (kv_BadSworn : PySem.W.kitOne K (.ref C_BadSworn) (.type "ValueError") = some true)
    (ie_BadSizes : PySem.W.findIn K (.ref C_BadSizes) "__class__" = some (some (.builtin "object.__class__")))
    (im_BadSizes : PySem.W.mroIn K C_BadSizes (.type "object") = some true)
    (kr_BadSizes : PySem.W.kitOne K (.ref C_BadSizes) (.ref C_Refused) = some true)
    (kv_BadSizes : PySem.W.kitOne K (.ref C_BadSizes) (.type "ValueError") = some true)
    (ie_BadScript : PySem.W.findIn K (.ref C_BadScript) "__class__" = some (some (.builtin "object.__class__")))
    (im_BadScript : PySem.W.mroIn K C_BadScript (.type "object") = some true)
    (kr_BadScript : PySem.W.kitOne K (.ref C_BadScript) (.ref C_Refused) = some true)
    (kv_BadScript : PySem.W.kitOne K (.ref C_BadScript) (.type "ValueError") = some true)
    (isp_ : PySem.W.specialIn K (.builtin "object.__class__") "__get__" = some (some (.builtin "getset_descriptor.__get__")))
    (itk_ : PySem.W.takesIn K (.builtin "object.__class__") = some true)
    (sr_law_heard_BadScript : sepR K C_Refused [((("BadScript" : Str), C_BadScript, ("BadScript" : Str)) : Str × Addr × Str), ((("BadSizes" : Str), C_BadSizes, ("BadSizes" : Str)) : Str × Addr × Str), ((("BadSworn" : Str), C_BadSworn, ("BadSworn" : Str)) : Str × Addr × Str), ((("Gap" : Str), C_Gap, ("Gap" : Str)) : Str × Addr × Str), ((("Sworn" : Str), C_Sworn, ("Sworn" : Str)) : Str × Addr × Str)] "BadScript" C_BadScript = true)
    (sr_law_heard_Gap : sepR K C_Refused [((("BadScript" : Str), C_BadScript, ("BadScript" : Str)) : Str × Addr × Str), ((("BadSizes" : Str), C_BadSizes, ("BadSizes" : Str)) : Str × Addr × Str), ((("BadSworn" : Str), C_BadSworn, ("BadSworn" : Str)) : Str × Addr × Str), ((("Gap" : Str), C_Gap, ("Gap" : Str)) : Str × Addr × Str), ((("Sworn" : Str), C_Sworn, ("Sworn" : Str)) : Str × Addr × Str)] "Gap" C_Gap = true)
    (sr_law_heard_Sworn : sepR K C_Refused [((("BadScript" : Str), C_BadScript, ("BadScript" : Str)) : Str × Addr × Str), ((("BadSizes" : Str), C_BadSizes, ("BadSizes" : Str)) : Str × Addr × Str), ((("BadSworn" : Str), C_BadSworn, ("BadSworn" : Str)) : Str × Addr × Str), ((("Gap" : Str), C_Gap, ("Gap" : Str)) : Str × Addr × Str), ((("Sworn" : Str), C_Sworn, ("Sworn" : Str)) : Str × Addr × Str)] "Sworn" C_Sworn = true)
    (sr_law_heard_BadSworn : sepR K C_Refused [((("BadScript" : Str), C_BadScript, ("BadScript" : Str)) : Str × Addr × Str), ((("BadSizes" : Str), C_BadSizes, ("BadSizes" : Str)) : Str × Addr × Str), ((("BadSworn" : Str), C_BadSworn, ("BadSworn" : Str)) : Str × Addr × Str), ((("Gap" : Str), C_Gap, ("Gap" : Str)) : Str × Addr × Str), ((("Sworn" : Str), C_Sworn, ("Sworn" : Str)) : Str × Addr × Str)] "BadSworn" C_BadSworn = true)
    (sr_law_heard_TooMany : sepR K C_Refused [((("BadScript" : Str), C_BadScript, ("BadScript" : Str)) : Str × Addr × Str), ((("BadSizes" : Str), C_BadSizes, ("BadSizes" : Str)) : Str × Addr × Str), ((("BadSworn" : Str), C_BadSworn, ("BadSworn" : Str)) : Str × Addr × Str), ((("Gap" : Str), C_Gap, ("Gap" : Str)) : Str × Addr × Str), ((("Sworn" : Str), C_Sworn, ("Sworn" : Str)) : Str × Addr × Str)] "TooMany" C_TooMany = true)
    (sr_law_heard_FewRecords : sepR K C_Refused [((("BadScript" : Str), C_BadScript, ("BadScript" : Str)) : Str × Addr × Str), ((("BadSizes" : Str), C_BadSizes, ("BadSizes" : Str)) : Str × Addr × Str), ((("BadSworn" : Str), C_BadSworn, ("BadSworn" : Str)) : Str × Addr × Str), ((("Gap" : Str), C_Gap, ("Gap" : Str)) : Str × Addr × Str), ((("Sworn" : Str), C_Sworn, ("Sworn" : Str)) : Str × Addr × Str)] "FewRecords" C_FewRecords = true)
    (sr_law_heard_FewSpares : sepR K C_Refused [((("BadScript" : Str), C_BadScript, ("BadScript" : Str)) : Str × Addr × Str), ((("BadSizes" : Str), C_BadSizes, ("BadSizes" : Str)) : Str × Addr × Str), ((("BadSworn" : Str), C_BadSworn, ("BadSworn" : Str)) : Str × Addr × Str), ((("Gap" : Str), C_Gap, ("Gap" : Str)) : Str × Addr × Str), ((("Sworn" : Str), C_Sworn, ("Sworn" : Str)) : Str × Addr × Str)] "FewSpares" C_FewSpares = true)
    (sr_law_heard_BadSizes : sepR K C_Refused [((("BadScript" : Str), C_BadScript, ("BadScript" : Str)) : Str × Addr × Str), ((("BadSizes" : Str), C_BadSizes, ("BadSizes" : Str)) : Str × Addr × Str), ((("BadSworn" : Str), C_BadSworn, ("BadSworn" : Str)) : Str × Addr × Str), ((("Gap" : Str), C_Gap, ("Gap" : Str)) : Str × Addr × Str), ((("Sworn" : Str), C_Sworn, ("Sworn" : Str)) : Str × Addr × Str)] "BadSizes" C_BadSizes = true)
    (sr_law_heard_Refused : sepR K C_Refused [((("BadScript" : Str), C_BadScript, ("BadScript" : Str)) : Str × Addr × Str), ((("BadSizes" : Str), C_BadSizes, ("BadSizes" : Str)) : Str × Addr × Str), ((("BadSworn" : Str), C_BadSworn, ("BadSworn" : Str)) : Str × Addr × Str), ((("Gap" : Str), C_Gap, ("Gap" : Str)) : Str × Addr × Str), ((("Sworn" : Str), C_Sworn, ("Sworn" : Str)) : Str × Addr × Str)] "Refused" C_Refused = true)
    (a_law_pool : PySem.W.nsIn K mainGlobals "_law_pool" = some (some (.ref f_law_pool)))
    (l_law_pool : K.lookup f_law_pool = some ⟨oc_law_pool, od_law_pool, .func (PySem.W.fnOf "_law_pool" "_law_pool" (defArgs s_law_pool) (defBody s_law_pool) (defScope s_law_pool) .none kV_law_pool dc_law_pool pm_law_pool an_law_pool cd_law_pool ct_law_pool), sl_law_pool⟩)
    (c1_law_pool : PySem.W.codeIn K cd_law_pool "_law_pool" = true)
    (k1_law_pool : PySem.W.keepIn K (.ref f_law_pool) = true)
    (a_is_number : PySem.W.nsIn K mainGlobals "is_number" = some (some (.ref f_is_number)))
    (l_is_number : K.lookup f_is_number = some ⟨oc_is_number, od_is_number, .func (PySem.W.fnOf "is_number" "is_number" (defArgs s_is_number) (defBody s_is_number) (defScope s_is_number) .none kV_is_number dc_is_number pm_is_number an_is_number cd_is_number ct_is_number), sl_is_number⟩)
    (c1_is_number : PySem.W.codeIn K cd_is_number "is_number" = true)
    (k1_is_number : PySem.W.keepIn K (.ref f_is_number) = true)
    (a_is_tuple_of : PySem.W.nsIn K mainGlobals "is_tuple_of" = some (some (.ref f_is_tuple_of)))
    (l_is_tuple_of : K.lookup f_is_tuple_of = some ⟨oc_is_tuple_of, od_is_tuple_of, .func (PySem.W.fnOf "is_tuple_of" "is_tuple_of" (defArgs s_is_tuple_of) (defBody s_is_tuple_of) (defScope s_is_tuple_of) .none kV_is_tuple_of dc_is_tuple_of pm_is_tuple_of an_is_tuple_of cd_is_tuple_of ct_is_tuple_of), sl_is_tuple_of⟩)
    (c1_is_tuple_of : PySem.W.codeIn K cd_is_tuple_of "is_tuple_of" = true)
    (k1_is_tuple_of : PySem.W.keepIn K (.ref f_is_tuple_of) = true)
    (a_drawn_of : PySem.W.nsIn K mainGlobals "drawn_of" = some (some (.ref f_drawn_of)))
    (l_drawn_of : K.lookup f_drawn_of = some ⟨oc_drawn_of, od_drawn_of, .func (PySem.W.fnOf "drawn_of" "drawn_of" (defArgs s_drawn_of) (defBody s_drawn_of) (defScope s_drawn_of) .none kV_drawn_of dc_drawn_of pm_drawn_of an_drawn_of cd_drawn_of ct_drawn_of), sl_drawn_of⟩)
    (c1_drawn_of : PySem.W.codeIn K cd_drawn_of "drawn_of" = true)
    (k1_drawn_of : PySem.W.keepIn K (.ref f_drawn_of) = true)
    (a_blocks_of : PySem.W.nsIn K mainGlobals "blocks_of" = some (some (.ref f_blocks_of)))
    (l_blocks_of : K.lookup f_blocks_of = some ⟨oc_blocks_of, od_blocks_of, .func (PySem.W.fnOf "blocks_of" "blocks_of" (defArgs s_blocks_of) (defBody s_blocks_of) (defScope s_blocks_of) .none kV_blocks_of dc_blocks_of pm_blocks_of an_blocks_of cd_blocks_of ct_blocks_of), sl_blocks_of⟩)
    (c1_blocks_of : PySem.W.codeIn K cd_blocks_of "blocks_of" = true)
    (k1_blocks_of : PySem.W.keepIn K (.ref f_blocks_of) = true)
    (a_first_of : PySem.W.nsIn K mainGlobals "first_of" = some (some (.ref f_first_of)))
    (l_first_of : K.lookup f_first_of = some ⟨oc_first_of, od_first_of, .func (PySem.W.fnOf "first_of" "first_of" (defArgs s_first_of) (defBody s_first_of) (defScope s_first_of) .none kV_first_of dc_first_of pm_first_of an_first_of cd_first_of ct_first_of), sl_first_of⟩)
    (c1_first_of : PySem.W.codeIn K cd_first_of "first_of" = true)
    (k1_first_of : PySem.W.keepIn K (.ref f_first_of) = true)
    (a_resting : PySem.W.nsIn K mainGlobals "resting" = some (some (.ref f_resting)))
    (l_resting : K.lookup f_resting = some ⟨oc_resting, od_resting, .func (PySem.W.fnOf "resting" "resting" (defArgs s_resting) (defBody s_resting) (defScope s_resting) .none kV_resting dc_resting pm_resting an_resting cd_resting ct_resting), sl_resting⟩)
    (c1_resting : PySem.W.codeIn K cd_resting "resting" = true)
    (k1_resting : PySem.W.keepIn K (.ref f_resting) = true)
    (a_law_draw : PySem.W.nsIn K mainGlobals "_law_draw" = some (some (.ref f_law_draw)))
    (l_law_draw : K.lookup f_law_draw = some ⟨oc_law_draw, od_law_draw, .func (PySem.W.fnOf "_law_draw" "_law_draw" (defArgs s_law_draw) (defBody s_law_draw) (defScope s_law_draw) .none kV_law_draw dc_law_draw pm_law_draw an_law_draw cd_law_draw ct_law_draw), sl_law_draw⟩)
    (c1_law_draw : PySem.W.codeIn K cd_law_draw "_law_draw" = true)
    (k1_law_draw : PySem.W.keepIn K (.ref f_law_draw) = true)
    (a_law_stand_may : PySem.W.nsIn K mainGlobals "_law_stand_may" = some (some (.ref f_law_stand_may)))
    (l_law_stand_may : K.lookup f_law_stand_may = some ⟨oc_law_stand_may, od_law_stand_may, .func (PySem.W.fnOf "_law_stand_may" "_law_stand_may" (defArgs s_law_stand_may) (defBody s_law_stand_may) (defScope s_law_stand_may) .none kV_law_stand_may dc_law_stand_may pm_law_stand_may an_law_stand_may cd_law_stand_may ct_law_stand_may), sl_law_stand_may⟩)
    (c1_law_stand_may : PySem.W.codeIn K cd_law_stand_may "_law_stand_may" = true)
    (k1_law_stand_may : PySem.W.keepIn K (.ref f_law_stand_may) = true)
    (a_law_stand_behind : PySem.W.nsIn K mainGlobals "_law_stand_behind" = some (some (.ref f_law_stand_behind)))
    (l_law_stand_behind : K.lookup f_law_stand_behind = some ⟨oc_law_stand_behind, od_law_stand_behind, .func (PySem.W.fnOf "_law_stand_behind" "_law_stand_behind" (defArgs s_law_stand_behind) (defBody s_law_stand_behind) (defScope s_law_stand_behind) .none kV_law_stand_behind dc_law_stand_behind pm_law_stand_behind an_law_stand_behind cd_law_stand_behind ct_law_stand_behind), sl_law_stand_behind⟩)
    (c1_law_stand_behind : PySem.W.codeIn K cd_law_stand_behind "_law_stand_behind" = true)
    (k1_law_stand_behind : PySem.W.keepIn K (.ref f_law_stand_behind) = true)
    (a_law_is_form : PySem.W.nsIn K mainGlobals "_law_is_form" = some (some (.ref f_law_is_form)))
    (l_law_is_form : K.lookup f_law_is_form = some ⟨oc_law_is_form, od_law_is_form, .func (PySem.W.fnOf "_law_is_form" "_law_is_form" (defArgs s_law_is_form) (defBody s_law_is_form) (defScope s_law_is_form) .none kV_law_is_form dc_law_is_form pm_law_is_form an_law_is_form cd_law_is_form ct_law_is_form), sl_law_is_form⟩)
    (c1_law_is_form : PySem.W.codeIn K cd_law_is_form "_law_is_form" = true)
    (k1_law_is_form : PySem.W.keepIn K (.ref f_law_is_form) = true)
    (a_is_between : PySem.W.nsIn K mainGlobals "is_between" = some (some (.ref f_is_between)))
    (l_is_between : K.lookup f_is_between = some ⟨oc_is_between, od_is_between, .func (PySem.W.fnOf "is_between" "is_between" (defArgs s_is_between) (defBody s_is_between) (defScope s_is_between) .none kV_is_between dc_is_between pm_is_between an_is_between cd_is_between ct_is_between), sl_is_between⟩)
    (c1_is_between : PySem.W.codeIn K cd_is_between "is_between" = true)
    (k1_is_between : PySem.W.keepIn K (.ref f_is_between) = true)
    (a_law_stand_rims : PySem.W.nsIn K mainGlobals "_law_stand_rims" = some (some (.ref f_law_stand_rims)))
    (l_law_stand_rims : K.lookup f_law_stand_rims = some ⟨oc_law_stand_rims, od_law_stand_rims, .func (PySem.W.fnOf "_law_stand_rims" "_law_stand_rims" (defArgs s_law_stand_rims) (defBody s_law_stand_rims) (defScope s_law_stand_rims) .none kV_law_stand_rims dc_law_stand_rims pm_law_stand_rims an_law_stand_rims cd_law_stand_rims ct_law_stand_rims), sl_law_stand_rims⟩)
    (c1_law_stand_rims : PySem.W.codeIn K cd_law_stand_rims "_law_stand_rims" = true)
    (k1_law_stand_rims : PySem.W.keepIn K (.ref f_law_stand_rims) = true)
    (a_law_pick : PySem.W.nsIn K mainGlobals "_law_pick" = some (some (.ref f_law_pick)))
    (l_law_pick : K.lookup f_law_pick = some ⟨oc_law_pick, od_law_pick, .func (PySem.W.fnOf "_law_pick" "_law_pick" (defArgs s_law_pick) (defBody s_law_pick) (defScope s_law_pick) .none kV_law_pick dc_law_pick pm_law_pick an_law_pick cd_law_pick ct_law_pick), sl_law_pick⟩)
    (c1_law_pick : PySem.W.codeIn K cd_law_pick "_law_pick" = true)
    (k1_law_pick : PySem.W.keepIn K (.ref f_law_pick) = true)
    (a_law_turned : PySem.W.nsIn K mainGlobals "_law_turned" = some (some (.ref f_law_turned)))
    (l_law_turned : K.lookup f_law_turned = some ⟨oc_law_turned, od_law_turned, .func (PySem.W.fnOf "_law_turned" "_law_turned" (defArgs s_law_turned) (defBody s_law_turned) (defScope s_law_turned) .none kV_law_turned dc_law_turned pm_law_turned an_law_turned cd_law_turned ct_law_turned), sl_law_turned⟩)
    (c1_law_turned : PySem.W.codeIn K cd_law_turned "_law_turned" = true)
    (k1_law_turned : PySem.W.keepIn K (.ref f_law_turned) = true)
    (a_law_wrong : PySem.W.nsIn K mainGlobals "_law_wrong" = some (some (.ref f_law_wrong)))
    (l_law_wrong : K.lookup f_law_wrong = some ⟨oc_law_wrong, od_law_wrong, .func (PySem.W.fnOf "_law_wrong" "_law_wrong" (defArgs s_law_wrong) (defBody s_law_wrong) (defScope s_law_wrong) .none kV_law_wrong dc_law_wrong pm_law_wrong an_law_wrong cd_law_wrong ct_law_wrong), sl_law_wrong⟩)
    (c1_law_wrong : PySem.W.codeIn K cd_law_wrong "_law_wrong" = true)
    (k1_law_wrong : PySem.W.keepIn K (.ref f_law_wrong) = true)
    (a_check_sworn : PySem.W.nsIn K mainGlobals "check_sworn" = some (some (.ref f_check_sworn)))
    (l_check_sworn : K.lookup f_check_sworn = some ⟨oc_check_sworn, od_check_sworn, .func (PySem.W.fnOf "check_sworn" "check_sworn" (defArgs s_check_sworn) (defBody s_check_sworn) (defScope s_check_sworn) .none kV_check_sworn dc_check_sworn pm_check_sworn an_check_sworn cd_check_sworn ct_check_sworn), sl_check_sworn⟩)
    (c1_check_sworn : PySem.W.codeIn K cd_check_sworn "check_sworn" = true)
    (k1_check_sworn : PySem.W.keepIn K (.ref f_check_sworn) = true)
    (a_made_sizes : PySem.W.nsIn K mainGlobals "made_sizes" = some (some (.ref f_made_sizes)))
    (l_made_sizes : K.lookup f_made_sizes = some ⟨oc_made_sizes, od_made_sizes, .func (PySem.W.fnOf "made_sizes" "made_sizes" (defArgs s_made_sizes) (defBody s_made_sizes) (defScope s_made_sizes) .none kV_made_sizes dc_made_sizes pm_made_sizes an_made_sizes cd_made_sizes ct_made_sizes), sl_made_sizes⟩)
    (c1_made_sizes : PySem.W.codeIn K cd_made_sizes "made_sizes" = true)
    (k1_made_sizes : PySem.W.keepIn K (.ref f_made_sizes) = true)
    (a_is_rising : PySem.W.nsIn K mainGlobals "is_rising" = some (some (.ref f_is_rising)))
    (l_is_rising : K.lookup f_is_rising = some ⟨oc_is_rising, od_is_rising, .func (PySem.W.fnOf "is_rising" "is_rising" (defArgs s_is_rising) (defBody s_is_rising) (defScope s_is_rising) .none kV_is_rising dc_is_rising pm_is_rising an_is_rising cd_is_rising ct_is_rising), sl_is_rising⟩)
    (c1_is_rising : PySem.W.codeIn K cd_is_rising "is_rising" = true)
    (k1_is_rising : PySem.W.keepIn K (.ref f_is_rising) = true)
    (a_law_stand_sizes : PySem.W.nsIn K mainGlobals "_law_stand_sizes" = some (some (.ref f_law_stand_sizes)))
    (l_law_stand_sizes : K.lookup f_law_stand_sizes = some ⟨oc_law_stand_sizes, od_law_stand_sizes, .func (PySem.W.fnOf "_law_stand_sizes" "_law_stand_sizes" (defArgs s_law_stand_sizes) (defBody s_law_stand_sizes) (defScope s_law_stand_sizes) .none kV_law_stand_sizes dc_law_stand_sizes pm_law_stand_sizes an_law_stand_sizes cd_law_stand_sizes ct_law_stand_sizes), sl_law_stand_sizes⟩)
    (c1_law_stand_sizes : PySem.W.codeIn K cd_law_stand_sizes "_law_stand_sizes" = true)
    (k1_law_stand_sizes : PySem.W.keepIn K (.ref f_law_stand_sizes) = true)
    (a_law_stand_great : PySem.W.nsIn K mainGlobals "_law_stand_great" = some (some (.ref f_law_stand_great)))
    (l_law_stand_great : K.lookup f_law_stand_great = some ⟨oc_law_stand_great, od_law_stand_great, .func (PySem.W.fnOf "_law_stand_great" "_law_stand_great" (defArgs s_law_stand_great) (defBody s_law_stand_great) (defScope s_law_stand_great) .none kV_law_stand_great dc_law_stand_great pm_law_stand_great an_law_stand_great cd_law_stand_great ct_law_stand_great), sl_law_stand_great⟩)
    (c1_law_stand_great : PySem.W.codeIn K cd_law_stand_great "_law_stand_great" = true)
    (k1_law_stand_great : PySem.W.keepIn K (.ref f_law_stand_great) = true)
    (a_law_stand_sworn : PySem.W.nsIn K mainGlobals "_law_stand_sworn" = some (some (.ref f_law_stand_sworn)))
    (l_law_stand_sworn : K.lookup f_law_stand_sworn = some ⟨oc_law_stand_sworn, od_law_stand_sworn, .func (PySem.W.fnOf "_law_stand_sworn" "_law_stand_sworn" (defArgs s_law_stand_sworn) (defBody s_law_stand_sworn) (defScope s_law_stand_sworn) .none kV_law_stand_sworn dc_law_stand_sworn pm_law_stand_sworn an_law_stand_sworn cd_law_stand_sworn ct_law_stand_sworn), sl_law_stand_sworn⟩)
    (c1_law_stand_sworn : PySem.W.codeIn K cd_law_stand_sworn "_law_stand_sworn" = true)
    (k1_law_stand_sworn : PySem.W.keepIn K (.ref f_law_stand_sworn) = true)
    (a_law_stand_asked : PySem.W.nsIn K mainGlobals "_law_stand_asked" = some (some (.ref f_law_stand_asked)))
    (l_law_stand_asked : K.lookup f_law_stand_asked = some ⟨oc_law_stand_asked, od_law_stand_asked, .func (PySem.W.fnOf "_law_stand_asked" "_law_stand_asked" (defArgs s_law_stand_asked) (defBody s_law_stand_asked) (defScope s_law_stand_asked) .none kV_law_stand_asked dc_law_stand_asked pm_law_stand_asked an_law_stand_asked cd_law_stand_asked ct_law_stand_asked), sl_law_stand_asked⟩)
    (c1_law_stand_asked : PySem.W.codeIn K cd_law_stand_asked "_law_stand_asked" = true)
    (k1_law_stand_asked : PySem.W.keepIn K (.ref f_law_stand_asked) = true)
    (a_law_bent_commit : PySem.W.nsIn K mainGlobals "_law_bent_commit" = some (some (.ref f_law_bent_commit)))
    (l_law_bent_commit : K.lookup f_law_bent_commit = some ⟨oc_law_bent_commit, od_law_bent_commit, .func (PySem.W.fnOf "_law_bent_commit" "_law_bent_commit" (defArgs s_law_bent_commit) (defBody s_law_bent_commit) (defScope s_law_bent_commit) .none kV_law_bent_commit dc_law_bent_commit pm_law_bent_commit an_law_bent_commit cd_law_bent_commit ct_law_bent_commit), sl_law_bent_commit⟩)
    (c1_law_bent_commit : PySem.W.codeIn K cd_law_bent_commit "_law_bent_commit" = true)
    (k1_law_bent_commit : PySem.W.keepIn K (.ref f_law_bent_commit) = true)
    (a_made_sworn : PySem.W.nsIn K mainGlobals "made_sworn" = some (some (.ref f_made_sworn)))
    (l_made_sworn : K.lookup f_made_sworn = some ⟨oc_made_sworn, od_made_sworn, .func (PySem.W.fnOf "made_sworn" "made_sworn" (defArgs s_made_sworn) (defBody s_made_sworn) (defScope s_made_sworn) .none kV_made_sworn dc_made_sworn pm_made_sworn an_made_sworn cd_made_sworn ct_made_sworn), sl_made_sworn⟩)
    (c1_made_sworn : PySem.W.codeIn K cd_made_sworn "made_sworn" = true)
    (k1_made_sworn : PySem.W.keepIn K (.ref f_made_sworn) = true)
    (a_is_commit_form : PySem.W.nsIn K mainGlobals "is_commit_form" = some (some (.ref f_is_commit_form)))
    (l_is_commit_form : K.lookup f_is_commit_form = some ⟨oc_is_commit_form, od_is_commit_form, .func (PySem.W.fnOf "is_commit_form" "is_commit_form" (defArgs s_is_commit_form) (defBody s_is_commit_form) (defScope s_is_commit_form) .none kV_is_commit_form dc_is_commit_form pm_is_commit_form an_is_commit_form cd_is_commit_form ct_is_commit_form), sl_is_commit_form⟩)
    (c1_is_commit_form : PySem.W.codeIn K cd_is_commit_form "is_commit_form" = true)
    (k1_is_commit_form : PySem.W.keepIn K (.ref f_is_commit_form) = true)
    (a_law_stand_script : PySem.W.nsIn K mainGlobals "_law_stand_script" = some (some (.ref f_law_stand_script)))
    (l_law_stand_script : K.lookup f_law_stand_script = some ⟨oc_law_stand_script, od_law_stand_script, .func (PySem.W.fnOf "_law_stand_script" "_law_stand_script" (defArgs s_law_stand_script) (defBody s_law_stand_script) (defScope s_law_stand_script) .none kV_law_stand_script dc_law_stand_script pm_law_stand_script an_law_stand_script cd_law_stand_script ct_law_stand_script), sl_law_stand_script⟩)
    (c1_law_stand_script : PySem.W.codeIn K cd_law_stand_script "_law_stand_script" = true)
    (k1_law_stand_script : PySem.W.keepIn K (.ref f_law_stand_script) = true)
    (a_law_bent : PySem.W.nsIn K mainGlobals "_law_bent" = some (some (.ref f_law_bent)))
    (l_law_bent : K.lookup f_law_bent = some ⟨oc_law_bent, od_law_bent, .func (PySem.W.fnOf "_law_bent" "_law_bent" (defArgs s_law_bent) (defBody s_law_bent) (defScope s_law_bent) .none kV_law_bent dc_law_bent pm_law_bent an_law_bent cd_law_bent ct_law_bent), sl_law_bent⟩)
    (c1_law_bent : PySem.W.codeIn K cd_law_bent "_law_bent" = true)
    (k1_law_bent : PySem.W.keepIn K (.ref f_law_bent) = true)
    (a_check_script : PySem.W.nsIn K mainGlobals "check_script" = some (some (.ref f_check_script)))
    (l_check_script : K.lookup f_check_script = some ⟨oc_check_script, od_check_script, .func (PySem.W.fnOf "check_script" "check_script" (defArgs s_check_script) (defBody s_check_script) (defScope s_check_script) .none kV_check_script dc_check_script pm_check_script an_check_script cd_check_script ct_check_script), sl_check_script⟩)
    (c1_check_script : PySem.W.codeIn K cd_check_script "check_script" = true)
    (k1_check_script : PySem.W.keepIn K (.ref f_check_script) = true)
    (a_made_script : PySem.W.nsIn K mainGlobals "made_script" = some (some (.ref f_made_script)))
    (l_made_script : K.lookup f_made_script = some ⟨oc_made_script, od_made_script, .func (PySem.W.fnOf "made_script" "made_script" (defArgs s_made_script) (defBody s_made_script) (defScope s_made_script) .none kV_made_script dc_made_script pm_made_script an_made_script cd_made_script ct_made_script), sl_made_script⟩)
    (c1_made_script : PySem.W.codeIn K cd_made_script "made_script" = true)
    (k1_made_script : PySem.W.keepIn K (.ref f_made_script) = true)
    (a_is_script : PySem.W.nsIn K mainGlobals "is_script" = some (some (.ref f_is_script)))
    (l_is_script : K.lookup f_is_script = some ⟨oc_is_script, od_is_script, .func (PySem.W.fnOf "is_script" "is_script" (defArgs s_is_script) (defBody s_is_script) (defScope s_is_script) .none kV_is_script dc_is_script pm_is_script an_is_script cd_is_script ct_is_script), sl_is_script⟩)
    (c1_is_script : PySem.W.codeIn K cd_is_script "is_script" = true)
    (k1_is_script : PySem.W.keepIn K (.ref f_is_script) = true)
    (j_is_script : cd_is_script = .ref kc_is_script)
    (o_is_script : K.lookup kc_is_script = some ⟨.type "code", ko_is_script, .fields kvs_is_script, ks_is_script⟩)
    (p_is_script : kvs_is_script[11]? = some (.ref P_is_script))
    (q_is_script : PySem.W.codeHdIn K kc_is_script P_is_script = true)
    (u_is_script : K.lookup P_is_script = none)
    (tb_is_script : h.get? P_is_script = some tb0)
    (a_law_right : PySem.W.nsIn K mainGlobals "_law_right" = some (some (.ref f_law_right)))
    (l_law_right : K.lookup f_law_right = some ⟨oc_law_right, od_law_right, .func (PySem.W.fnOf "_law_right" "_law_right" (defArgs s_law_right) (defBody s_law_right) (defScope s_law_right) .none kV_law_right dc_law_right pm_law_right an_law_right cd_law_right ct_law_right), sl_law_right⟩)
    (c1_law_right : PySem.W.codeIn K cd_law_right "_law_right" = true)
    (k1_law_right : PySem.W.keepIn K (.ref f_law_right) = true)
    (j_law_right : cd_law_right = .ref kc_law_right)
    (o_law_right : K.lookup kc_law_right = some ⟨.type "code", ko_law_right, .fields kvs_law_right, ks_law_right⟩)
    (p_law_right : kvs_law_right[11]? = some (.ref P_law_right))
    (q_law_right : PySem.W.codeHdIn K kc_law_right P_law_right = true)
    (u_law_right : K.lookup P_law_right = none)
    (tb_law_right : h.get? P_law_right = some tb0)
    (a_law_long_right : PySem.W.nsIn K mainGlobals "_law_long_right" = some (some (.ref f_law_long_right)))
    (l_law_long_right : K.lookup f_law_long_right = some ⟨oc_law_long_right, od_law_long_right, .func (PySem.W.fnOf "_law_long_right" "_law_long_right" (defArgs s_law_long_right) (defBody s_law_long_right) (defScope s_law_long_right) .none kV_law_long_right dc_law_long_right pm_law_long_right an_law_long_right cd_law_long_right ct_law_long_right), sl_law_long_right⟩)
    (c1_law_long_right : PySem.W.codeIn K cd_law_long_right "_law_long_right" = true)
    (k1_law_long_right : PySem.W.keepIn K (.ref f_law_long_right) = true)
    (j_law_long_right : cd_law_long_right = .ref kc_law_long_right)
    (o_law_long_right : K.lookup kc_law_long_right = some ⟨.type "code", ko_law_long_right, .fields kvs_law_long_right, ks_law_long_right⟩)
    (p_law_long_right : kvs_law_long_right[11]? = some (.ref P_law_long_right))
    (q_law_long_right : PySem.W.codeHdIn K kc_law_long_right P_law_long_right = true)
    (u_law_long_right : K.lookup P_law_long_right = none)
    (tb_law_long_right : h.get? P_law_long_right = some tb0)
    (a_law : PySem.W.nsIn K mainGlobals "law" = some (some (.ref f_law)))
    (l_law : K.lookup f_law = some ⟨oc_law, od_law, .func (PySem.W.fnOf "law" "law" (defArgs s_law) (defBody s_law) (defScope s_law) .none kV_law dc_law pm_law an_law cd_law ct_law), sl_law⟩)
    (c1_law : PySem.W.codeIn K cd_law "law" = true)
    (k1_law : PySem.W.keepIn K (.ref f_law) = true)
    (j_law : cd_law = .ref kc_law)
    (o_law : K.lookup kc_law = some ⟨.type "code", ko_law, .fields kvs_law, ks_law⟩)
    (p_law : kvs_law[11]? = some (.ref P_law))
    (q_law : PySem.W.codeHdIn K kc_law P_law = true)
    (u_law : K.lookup P_law = none)
    (tb_law : h.get? P_law = some tb0)
    (nd_all : ([P_law, P_law_right, P_is_script, P_law_long_right] : List Addr).Nodup) :
    ∃ (T : Tbs) (cs : List (Addr × Addr)) (fd : FuncData), (∀ p ∈ cs, h.get? p.2 = some tb0) ∧ (∀ p ∈ cs, K.lookup p.2 = none) ∧ (∀ p ∈ cs, PySem.W.CodeHd h p.1 p.2) ∧ (∀ q ∈ T.T, ∃ c, (c, q.1) ∈ cs) ∧
      (∀ (s : Shared) (u : Value), BindsTo s fd ⟨[u], []⟩ [("script", u)]) ∧ ∀ base : Heap, K.In base → base.Ns mainGlobals mg → (∀ p ∈ cs, LamX.TabB base mg p.1 p.2) → FnG l.prog w K mg base 11 true fa fd 1 ["script"] m_law := by
  have e := hfa.symm.trans (PySem.W.mg_of X G a_law)
  cases e
  let T : Tbs := ⟨[(P_law, ("law.<locals>.<lambda>" : Str)), (P_law_right, ("_law_right.<locals>.<lambda>" : Str)), (P_is_script, ("is_script.<locals>.<lambda>" : Str)), (P_law_long_right, ("_law_long_right.<locals>.<lambda>" : Str))]⟩
  have n_len := PySem.W.mg_none_of X G z_len
  have n_int := PySem.W.mg_none_of X G z_int
  have n_list := PySem.W.mg_none_of X G z_list
  have n_isinstance := PySem.W.mg_none_of X G z_isinstance
  have n_bool := PySem.W.mg_none_of X G z_bool
  have n_tuple := PySem.W.mg_none_of X G z_tuple
  have n_range := PySem.W.mg_none_of X G z_range
  have c_BOUNDS : IsC K mg "BOUNDS" k_BOUNDS := c_t (PySem.W.mg_of X G a_BOUNDS) fun F H => (k_t q_t_BOUNDS_1 (by show 6 ≤ lineN; decide) (xs := [.ref t_BOUNDS_2, .ref t_BOUNDS_5, .ref t_BOUNDS_8, .ref t_BOUNDS_11, .ref t_BOUNDS_14, .ref t_BOUNDS_17]) (.cons rfl (.cons rfl (.cons rfl (.cons rfl (.cons rfl (.cons rfl .nil)))))) (k_cons (k_t q_t_BOUNDS_2 (by show 2 ≤ lineN; decide) (xs := [.int 1, .int 40]) (.cons ⟨u_BOUNDS_3, rfl⟩ (.cons ⟨u_BOUNDS_4, rfl⟩ .nil)) (k_cons (show RepP K F H (.int 1) (.int 1) from rfl) (k_cons (show RepP K F H (.int 40) (.int 40) from rfl) k_nil))) (k_cons (k_t q_t_BOUNDS_5 (by show 2 ≤ lineN; decide) (xs := [.int 1, .int 6]) (.cons ⟨u_BOUNDS_6, rfl⟩ (.cons ⟨u_BOUNDS_7, rfl⟩ .nil)) (k_cons (show RepP K F H (.int 1) (.int 1) from rfl) (k_cons (show RepP K F H (.int 6) (.int 6) from rfl) k_nil))) (k_cons (k_t q_t_BOUNDS_8 (by show 2 ≤ lineN; decide) (xs := [.int 1, .int 60]) (.cons ⟨u_BOUNDS_9, rfl⟩ (.cons ⟨u_BOUNDS_10, rfl⟩ .nil)) (k_cons (show RepP K F H (.int 1) (.int 1) from rfl) (k_cons (show RepP K F H (.int 60) (.int 60) from rfl) k_nil))) (k_cons (k_t q_t_BOUNDS_11 (by show 2 ≤ lineN; decide) (xs := [.int 1, .int 10000]) (.cons ⟨u_BOUNDS_12, rfl⟩ (.cons ⟨u_BOUNDS_13, rfl⟩ .nil)) (k_cons (show RepP K F H (.int 1) (.int 1) from rfl) (k_cons (show RepP K F H (.int 10000) (.int 10000) from rfl) k_nil))) (k_cons (k_t q_t_BOUNDS_14 (by show 2 ≤ lineN; decide) (xs := [.int 1, .int 8]) (.cons ⟨u_BOUNDS_15, rfl⟩ (.cons ⟨u_BOUNDS_16, rfl⟩ .nil)) (k_cons (show RepP K F H (.int 1) (.int 1) from rfl) (k_cons (show RepP K F H (.int 8) (.int 8) from rfl) k_nil))) (k_cons (k_t q_t_BOUNDS_17 (by show 2 ≤ lineN; decide) (xs := [.int 0, .int 8]) (.cons ⟨u_BOUNDS_18, rfl⟩ (.cons ⟨u_BOUNDS_19, rfl⟩ .nil)) (k_cons (show RepP K F H (.int 0) (.int 0) from rfl) (k_cons (show RepP K F H (.int 8) (.int 8) from rfl) k_nil))) k_nil)))))))
  have c_MOST_BLOCKS : IsC K mg "MOST_BLOCKS" k_MOST_BLOCKS := c_i (PySem.W.mg_of X G a_MOST_BLOCKS)
  have n_max := PySem.W.mg_none_of X G z_max
  have c_MOST_COMMITS : IsC K mg "MOST_COMMITS" k_MOST_COMMITS := c_i (PySem.W.mg_of X G a_MOST_COMMITS)
  have n_sorted := PySem.W.mg_none_of X G z_sorted
  have n_enumerate := PySem.W.mg_none_of X G z_enumerate
  have n_repr := PySem.W.mg_none_of X G z_repr
  have F_init := fun_mk (st := s_init) l_init c1_init k1_init
  have I_init : InitK K f_init := initK_mk F_init sc_init vis_init0 vis_init1 rfl t1_init (F_init.binds (ps := ["self", "what"]) fun _ _ _ _ _ _ us hl => match us, hl with | [_, _], _ => rfl)
  have x_BadSworn : IsEx K mg "BadSworn" := isEx_mk (PySem.W.mg_of X G a_BadSworn) e_BadSworn I_init
  have x_FewRecords : IsEx K mg "FewRecords" := isEx_mk (PySem.W.mg_of X G a_FewRecords) e_FewRecords I_init
  have x_BadSizes : IsEx K mg "BadSizes" := isEx_mk (PySem.W.mg_of X G a_BadSizes) e_BadSizes I_init
  have x_FewSpares : IsEx K mg "FewSpares" := isEx_mk (PySem.W.mg_of X G a_FewSpares) e_FewSpares I_init
  have x_TooMany : IsEx K mg "TooMany" := isEx_mk (PySem.W.mg_of X G a_TooMany) e_TooMany I_init
  have x_BadScript : IsEx K mg "BadScript" := isEx_mk (PySem.W.mg_of X G a_BadScript) e_BadScript I_init
  have x_Sworn : IsEx K mg "Sworn" := isEx_mk (PySem.W.mg_of X G a_Sworn) e_Sworn I_init
  have x_Gap : IsEx K mg "Gap" := isEx_mk (PySem.W.mg_of X G a_Gap) e_Gap I_init
  have x_Refused : IsEx K mg "Refused" := isEx_mk (PySem.W.mg_of X G a_Refused) e_Refused I_init
  have ls_all : ∀ y ∈ refL, ∀ C, mg y = some (.ref C) → PySem.W.exmOne K (.ref C) (.ref C_Refused) = some true := (ls_cons (PySem.W.mg_of X G a_Refused) (exm_of b1_R b2_R b3_R s_Refused) (ls_cons (PySem.W.mg_of X G a_BadSizes) (exm_of b1_R b2_R b3_R s_BadSizes) (ls_cons (PySem.W.mg_of X G a_FewSpares) (exm_of b1_R b2_R b3_R s_FewSpares) (ls_cons (PySem.W.mg_of X G a_FewRecords) (exm_of b1_R b2_R b3_R s_FewRecords) (ls_cons (PySem.W.mg_of X G a_TooMany) (exm_of b1_R b2_R b3_R s_TooMany) (ls_cons (PySem.W.mg_of X G a_BadSworn) (exm_of b1_R b2_R b3_R s_BadSworn) (ls_none (PySem.W.mg_none_of X G z_BadMany) (ls_none (PySem.W.mg_none_of X G z_BadFlag) (ls_none (PySem.W.mg_none_of X G z_BadCommit) (ls_cons (PySem.W.mg_of X G a_Sworn) (exm_of b1_R b2_R b3_R s_Sworn) (ls_cons (PySem.W.mg_of X G a_Gap) (exm_of b1_R b2_R b3_R s_Gap) (ls_cons (PySem.W.mg_of X G a_BadScript) (exm_of b1_R b2_R b3_R s_BadScript) (ls_none (PySem.W.mg_none_of X G z_BadLast) (ls_none (PySem.W.mg_none_of X G z_BadBoard) (ls_none (PySem.W.mg_none_of X G z_BadStand) (ls_none (PySem.W.mg_none_of X G z_BadRecord) (ls_none (PySem.W.mg_none_of X G z_BadStep) (ls_none (PySem.W.mg_none_of X G z_NotFree) (ls_none (PySem.W.mg_none_of X G z_Spent) (ls_none (PySem.W.mg_none_of X G z_Empty) (ls_none (PySem.W.mg_none_of X G z_BadLog) (ls_none (PySem.W.mg_none_of X G z_BadHabit) (ls_none (PySem.W.mg_none_of X G z_Stopped) (ls_none (PySem.W.mg_none_of X G z_FewBlocks) (ls_none (PySem.W.mg_none_of X G z_BadLot) (ls_none (PySem.W.mg_none_of X G z_NothingBack) (ls_none (PySem.W.mg_none_of X G z_NothingAgain) (ls_none (PySem.W.mg_none_of X G z_BadImage) (ls_none (PySem.W.mg_none_of X G z_Unlike) (ls_none (PySem.W.mg_none_of X G z_Lost) (ls_none (PySem.W.mg_none_of X G z_BadWorths) (ls_none (PySem.W.mg_none_of X G z_BadBlocks) (ls_none (PySem.W.mg_none_of X G z_BadBlock) (ls_none (PySem.W.mg_none_of X G z_BadWrites) (ls_none (PySem.W.mg_none_of X G z_BadText) (ls_none (PySem.W.mg_none_of X G z_Twice) (ls_none (PySem.W.mg_none_of X G z_TooDeep) (ls_none (PySem.W.mg_none_of X G z_Long) (ls_none (PySem.W.mg_none_of X G z_NoSizes) (ls_none (PySem.W.mg_none_of X G z_NoStore) ls_nil))))))))))))))))))))))))))))))))))))))))
  have F_is_let := fun_mk (st := s_is_let) l_is_let c1_is_let k1_is_let
  have l_is_let : IsLet K mg "is_let" "Refused" C_Refused := isLet_mk F_is_let (PySem.W.mg_of X G a_is_let) (PySem.W.mg_of X G a_Refused) (F_is_let.binds (ps := ["call"]) fun _ _ _ _ _ _ us hl => match us, hl with | [_], _ => rfl) sc_is_let vis_is_let rfl rfl
  have isn_law_heard : IsN mg (defScope s_law_heard) C_Refused := ⟨rfl, PySem.W.mg_none_of X G z_isinstance, rfl, PySem.W.mg_of X G a_Refused, rfl, PySem.W.mg_none_of X G z_ValueError⟩
  have F_law_heard := fun_mk (st := s_law_heard) l_law_heard c1_law_heard k1_law_heard
  have hd_law_heard : IsHearF K mg "_law_heard" true "told" hl_law_heard "another" 0 := ⟨_, C_Refused, s_law_heard, _, "error", "found", 1, 2, _, _, ["call", "error", "found"], [((("BadScript" : Str), C_BadScript, ("BadScript" : Str)) : Str × Addr × Str), ((("BadSizes" : Str), C_BadSizes, ("BadSizes" : Str)) : Str × Addr × Str), ((("BadSworn" : Str), C_BadSworn, ("BadSworn" : Str)) : Str × Addr × Str), ((("Gap" : Str), C_Gap, ("Gap" : Str)) : Str × Addr × Str), ((("Sworn" : Str), C_Sworn, ("Sworn" : Str)) : Str × Addr × Str)], _, _, _, _, _, _, _, _, _, _, PySem.W.mg_of X G a_law_heard, F_law_heard, F_law_heard.binds (ps := ["call"]) (fun _ _ _ _ _ _ us hl => match us, hl with | [_], _ => rfl), sc_law_heard, vis_law_heard, rfl, rfl, rfl, by decide, by decide, rfl, rfl, by decide, by decide, by decide, (.cl1 ⟨e_BadScript.xf, ie_BadScript, isp_, itk_, im_BadScript⟩ e_BadScript.what (PySem.W.mg_of X G a_BadScript) rfl (by decide) isn_law_heard kr_BadScript kv_BadScript (.cl1 ⟨e_BadSizes.xf, ie_BadSizes, isp_, itk_, im_BadSizes⟩ e_BadSizes.what (PySem.W.mg_of X G a_BadSizes) rfl (by decide) isn_law_heard kr_BadSizes kv_BadSizes (.cl1 ⟨e_BadSworn.xf, ie_BadSworn, isp_, itk_, im_BadSworn⟩ e_BadSworn.what (PySem.W.mg_of X G a_BadSworn) rfl (by decide) isn_law_heard kr_BadSworn kv_BadSworn (.cl1 ⟨e_Gap.xf, ie_Gap, isp_, itk_, im_Gap⟩ e_Gap.what (PySem.W.mg_of X G a_Gap) rfl (by decide) isn_law_heard kr_Gap kv_Gap (.cl1 ⟨e_Sworn.xf, ie_Sworn, isp_, itk_, im_Sworn⟩ e_Sworn.what (PySem.W.mg_of X G a_Sworn) rfl (by decide) isn_law_heard kr_Sworn kv_Sworn (.last1 (PySem.W.mg_of X G a_Refused) rfl)))))), rfl, in_of rfl, (List.forall_mem_cons.mpr ⟨PySem.W.mg_of X G a_BadScript, (List.forall_mem_cons.mpr ⟨PySem.W.mg_of X G a_BadSizes, (List.forall_mem_cons.mpr ⟨PySem.W.mg_of X G a_BadSworn, (List.forall_mem_cons.mpr ⟨PySem.W.mg_of X G a_Gap, (List.forall_mem_cons.mpr ⟨PySem.W.mg_of X G a_Sworn, (fun _ h => nomatch h)⟩)⟩)⟩)⟩)⟩), (sepR_cons (PySem.W.mg_of X G a_Refused) sr_law_heard_Refused (sepR_cons (PySem.W.mg_of X G a_BadSizes) sr_law_heard_BadSizes (sepR_cons (PySem.W.mg_of X G a_FewSpares) sr_law_heard_FewSpares (sepR_cons (PySem.W.mg_of X G a_FewRecords) sr_law_heard_FewRecords (sepR_cons (PySem.W.mg_of X G a_TooMany) sr_law_heard_TooMany (sepR_cons (PySem.W.mg_of X G a_BadSworn) sr_law_heard_BadSworn (sepR_none (PySem.W.mg_none_of X G z_BadMany) (sepR_none (PySem.W.mg_none_of X G z_BadFlag) (sepR_none (PySem.W.mg_none_of X G z_BadCommit) (sepR_cons (PySem.W.mg_of X G a_Sworn) sr_law_heard_Sworn (sepR_cons (PySem.W.mg_of X G a_Gap) sr_law_heard_Gap (sepR_cons (PySem.W.mg_of X G a_BadScript) sr_law_heard_BadScript (sepR_none (PySem.W.mg_none_of X G z_BadLast) (sepR_none (PySem.W.mg_none_of X G z_BadBoard) (sepR_none (PySem.W.mg_none_of X G z_BadStand) (sepR_none (PySem.W.mg_none_of X G z_BadRecord) (sepR_none (PySem.W.mg_none_of X G z_BadStep) (sepR_none (PySem.W.mg_none_of X G z_NotFree) (sepR_none (PySem.W.mg_none_of X G z_Spent) (sepR_none (PySem.W.mg_none_of X G z_Empty) (sepR_none (PySem.W.mg_none_of X G z_BadLog) (sepR_none (PySem.W.mg_none_of X G z_BadHabit) (sepR_none (PySem.W.mg_none_of X G z_Stopped) (sepR_none (PySem.W.mg_none_of X G z_FewBlocks) (sepR_none (PySem.W.mg_none_of X G z_BadLot) (sepR_none (PySem.W.mg_none_of X G z_NothingBack) (sepR_none (PySem.W.mg_none_of X G z_NothingAgain) (sepR_none (PySem.W.mg_none_of X G z_BadImage) (sepR_none (PySem.W.mg_none_of X G z_Unlike) (sepR_none (PySem.W.mg_none_of X G z_Lost) (sepR_none (PySem.W.mg_none_of X G z_BadWorths) (sepR_none (PySem.W.mg_none_of X G z_BadBlocks) (sepR_none (PySem.W.mg_none_of X G z_BadBlock) (sepR_none (PySem.W.mg_none_of X G z_BadWrites) (sepR_none (PySem.W.mg_none_of X G z_BadText) (sepR_none (PySem.W.mg_none_of X G z_Twice) (sepR_none (PySem.W.mg_none_of X G z_TooDeep) (sepR_none (PySem.W.mg_none_of X G z_Long) (sepR_none (PySem.W.mg_none_of X G z_NoSizes) (sepR_none (PySem.W.mg_none_of X G z_NoStore) sepR_nil)))))))))))))))))))))))))))))))))))))))), rfl⟩
  refine ⟨T, [(kc_law, P_law), (kc_law_right, P_law_right), (kc_is_script, P_is_script), (kc_law_long_right, P_law_long_right)], PySem.W.fnOf "law" "law" (defArgs s_law) (defBody s_law) (defScope s_law) .none kV_law dc_law pm_law an_law cd_law ct_law,
    (List.forall_mem_cons.mpr ⟨tb_law, (List.forall_mem_cons.mpr ⟨tb_law_right, (List.forall_mem_cons.mpr ⟨tb_is_script, (List.forall_mem_cons.mpr ⟨tb_law_long_right, (fun _ h => nomatch h)⟩)⟩)⟩)⟩),
    (List.forall_mem_cons.mpr ⟨u_law, (List.forall_mem_cons.mpr ⟨u_law_right, (List.forall_mem_cons.mpr ⟨u_is_script, (List.forall_mem_cons.mpr ⟨u_law_long_right, (fun _ h => nomatch h)⟩)⟩)⟩)⟩),
    (List.forall_mem_cons.mpr ⟨PySem.W.codeHd_of_K X q_law, (List.forall_mem_cons.mpr ⟨PySem.W.codeHd_of_K X q_law_right, (List.forall_mem_cons.mpr ⟨PySem.W.codeHd_of_K X q_is_script, (List.forall_mem_cons.mpr ⟨PySem.W.codeHd_of_K X q_law_long_right, (fun _ h => nomatch h)⟩)⟩)⟩)⟩),
    (List.forall_mem_cons.mpr ⟨⟨kc_law, (.head _)⟩, (List.forall_mem_cons.mpr ⟨⟨kc_law_right, (.tail _ (.head _))⟩, (List.forall_mem_cons.mpr ⟨⟨kc_is_script, (.tail _ (.tail _ (.head _)))⟩, (List.forall_mem_cons.mpr ⟨⟨kc_law_long_right, (.tail _ (.tail _ (.tail _ (.head _))))⟩, (fun _ h => nomatch h)⟩)⟩)⟩)⟩),
    fun s v => .of_eq rfl, fun base _ _ hTB => ?_⟩
  have h_law_pool : Has l.prog w K mg base "_law_pool" 1 1 false m_law_pool := ok_law_pool (fun_mk (st := s_law_pool) l_law_pool c1_law_pool k1_law_pool) (PySem.W.mg_of X G a_law_pool) n_len n_int n_list
  have h_is_number : Has l.prog w K mg base "is_number" 1 1 false m_is_number := ok_is_number (fun_mk (st := s_is_number) l_is_number c1_is_number k1_is_number) (PySem.W.mg_of X G a_is_number) n_isinstance n_int n_bool
  have h_is_tuple_of : Has l.prog w K mg base "is_tuple_of" 3 1 false m_is_tuple_of := ok_is_tuple_of (fun_mk (st := s_is_tuple_of) l_is_tuple_of c1_is_tuple_of k1_is_tuple_of) (PySem.W.mg_of X G a_is_tuple_of) n_isinstance n_tuple n_len
  have h_drawn_of : Has l.prog w K mg base "drawn_of" 1 1 false m_drawn_of := ok_drawn_of (fun_mk (st := s_drawn_of) l_drawn_of c1_drawn_of k1_drawn_of) (PySem.W.mg_of X G a_drawn_of)
  have h_blocks_of : Has l.prog w K mg base "blocks_of" 1 1 false m_blocks_of := ok_blocks_of (fun_mk (st := s_blocks_of) l_blocks_of c1_blocks_of k1_blocks_of) (PySem.W.mg_of X G a_blocks_of)
  have h_first_of : Has l.prog w K mg base "first_of" 2 1 false m_first_of := ok_first_of (fun_mk (st := s_first_of) l_first_of c1_first_of k1_first_of) (PySem.W.mg_of X G a_first_of)
  have h_resting : Has l.prog w K mg base "resting" 1 1 false m_resting := ok_resting (fun_mk (st := s_resting) l_resting c1_resting k1_resting) (PySem.W.mg_of X G a_resting)
  have h_law_draw : Has l.prog w K mg base "_law_draw" 2 1 false m_law_draw := ok_law_draw (fun_mk (st := s_law_draw) l_law_draw c1_law_draw k1_law_draw) (PySem.W.mg_of X G a_law_draw) n_int
  have h_law_stand_may : Has l.prog w K mg base "_law_stand_may" 3 1 false m_law_stand_may := ok_law_stand_may (fun_mk (st := s_law_stand_may) l_law_stand_may c1_law_stand_may k1_law_stand_may) (PySem.W.mg_of X G a_law_stand_may) n_range
  have h_law_stand_behind : Has l.prog w K mg base "_law_stand_behind" 3 1 false m_law_stand_behind := ok_law_stand_behind (fun_mk (st := s_law_stand_behind) l_law_stand_behind c1_law_stand_behind k1_law_stand_behind) (PySem.W.mg_of X G a_law_stand_behind) n_max n_len
  have h_law_is_form : Has l.prog w K mg base "_law_is_form" 2 1 false m_law_is_form := ok_law_is_form (fun_mk (st := s_law_is_form) l_law_is_form c1_law_is_form k1_law_is_form) (PySem.W.mg_of X G a_law_is_form) n_isinstance n_tuple n_len n_enumerate n_int n_bool
  have h_is_between : Has l.prog w K mg base "is_between" 3 2 false m_is_between := ok_is_between (fun_mk (st := s_is_between) l_is_between c1_is_between k1_is_between) (PySem.W.mg_of X G a_is_between) h_is_number
  have h_law_stand_rims : Has l.prog w K mg base "_law_stand_rims" 2 2 false m_law_stand_rims := ok_law_stand_rims (fun_mk (st := s_law_stand_rims) l_law_stand_rims c1_law_stand_rims k1_law_stand_rims) (PySem.W.mg_of X G a_law_stand_rims) h_law_draw
  have h_law_pick : Has l.prog w K mg base "_law_pick" 2 2 false m_law_pick := ok_law_pick (fun_mk (st := s_law_pick) l_law_pick c1_law_pick k1_law_pick) (PySem.W.mg_of X G a_law_pick) h_law_draw n_len
  have h_law_turned : Has l.prog w K mg base "_law_turned" 2 2 false m_law_turned := ok_law_turned (fun_mk (st := s_law_turned) l_law_turned c1_law_turned k1_law_turned) (PySem.W.mg_of X G a_law_turned) n_list n_range h_law_draw n_len
  have h_law_wrong : Has l.prog w K mg base "_law_wrong" 3 2 false m_law_wrong := ok_law_wrong (fun_mk (st := s_law_wrong) l_law_wrong c1_law_wrong k1_law_wrong) (PySem.W.mg_of X G a_law_wrong) n_isinstance n_tuple n_len n_enumerate h_law_is_form
  have h_check_sworn : Has l.prog w K mg base "check_sworn" 2 3 false m_check_sworn := ok_check_sworn (fun_mk (st := s_check_sworn) l_check_sworn c1_check_sworn k1_check_sworn) (PySem.W.mg_of X G a_check_sworn) n_isinstance n_tuple x_BadSworn n_range n_len h_is_between x_FewRecords
  have h_made_sizes : Has l.prog w K mg base "made_sizes" 1 3 false m_made_sizes := ok_made_sizes (fun_mk (st := s_made_sizes) l_made_sizes c1_made_sizes k1_made_sizes) (PySem.W.mg_of X G a_made_sizes) h_is_tuple_of x_BadSizes n_range h_is_between c_BOUNDS h_drawn_of x_FewSpares x_FewRecords h_blocks_of c_MOST_BLOCKS x_TooMany
  have h_is_rising : Has l.prog w K mg base "is_rising" 2 3 false m_is_rising := ok_is_rising (fun_mk (st := s_is_rising) l_is_rising c1_is_rising k1_is_rising) (PySem.W.mg_of X G a_is_rising) n_isinstance n_tuple h_is_between
  have h_law_stand_sizes : Has l.prog w K mg base "_law_stand_sizes" 5 3 false m_law_stand_sizes := ok_law_stand_sizes (fun_mk (st := s_law_stand_sizes) l_law_stand_sizes c1_law_stand_sizes k1_law_stand_sizes) (PySem.W.mg_of X G a_law_stand_sizes) h_law_pick h_law_draw n_max n_range
  have h_law_stand_great : Has l.prog w K mg base "_law_stand_great" 1 3 false m_law_stand_great := ok_law_stand_great (fun_mk (st := s_law_stand_great) l_law_stand_great c1_law_stand_great k1_law_stand_great) (PySem.W.mg_of X G a_law_stand_great) h_law_pick h_law_draw
  have h_law_stand_sworn : Has l.prog w K mg base "_law_stand_sworn" 2 3 false m_law_stand_sworn := ok_law_stand_sworn (fun_mk (st := s_law_stand_sworn) l_law_stand_sworn c1_law_stand_sworn k1_law_stand_sworn) (PySem.W.mg_of X G a_law_stand_sworn) h_law_draw n_tuple n_sorted h_law_turned
  have h_law_stand_asked : Has l.prog w K mg base "_law_stand_asked" 4 3 false m_law_stand_asked := ok_law_stand_asked (fun_mk (st := s_law_stand_asked) l_law_stand_asked c1_law_stand_asked k1_law_stand_asked) (PySem.W.mg_of X G a_law_stand_asked) h_law_stand_may n_tuple n_sorted h_law_turned n_len
  have h_law_bent_commit : Has l.prog w K mg base "_law_bent_commit" 3 3 false m_law_bent_commit := ok_law_bent_commit (fun_mk (st := s_law_bent_commit) l_law_bent_commit c1_law_bent_commit k1_law_bent_commit) (PySem.W.mg_of X G a_law_bent_commit) h_law_draw n_len n_tuple n_sorted h_law_turned h_law_pick n_list
  have h_made_sworn : Has l.prog w K mg base "made_sworn" 2 4 false m_made_sworn := ok_made_sworn (fun_mk (st := s_made_sworn) l_made_sworn c1_made_sworn k1_made_sworn) (PySem.W.mg_of X G a_made_sworn) h_check_sworn h_made_sizes
  have h_is_commit_form : Has l.prog w K mg base "is_commit_form" 2 4 false m_is_commit_form := ok_is_commit_form (fun_mk (st := s_is_commit_form) l_is_commit_form c1_is_commit_form k1_is_commit_form) (PySem.W.mg_of X G a_is_commit_form) h_is_tuple_of h_is_rising
  have h_law_stand_script : Has l.prog w K mg base "_law_stand_script" 4 4 false m_law_stand_script := ok_law_stand_script (fun_mk (st := s_law_stand_script) l_law_stand_script c1_law_stand_script k1_law_stand_script) (PySem.W.mg_of X G a_law_stand_script) n_range h_law_stand_asked h_law_stand_behind
  have h_law_bent : Has l.prog w K mg base "_law_bent" 3 4 false m_law_bent := ok_law_bent (fun_mk (st := s_law_bent) l_law_bent c1_law_bent k1_law_bent) (PySem.W.mg_of X G a_law_bent) h_law_draw n_len h_law_pick n_list n_int h_law_bent_commit n_tuple
  have h_check_script : Has l.prog w K mg base "check_script" 4 5 false m_check_script := ok_check_script (fun_mk (st := s_check_script) l_check_script c1_check_script k1_check_script) (PySem.W.mg_of X G a_check_script) h_is_tuple_of x_BadScript n_range n_len h_is_commit_form h_first_of x_Sworn h_resting n_max x_Gap
  have h_made_script : Has l.prog w K mg base "made_script" 3 6 false m_made_script := ok_made_script (fun_mk (st := s_made_script) l_made_script c1_made_script k1_made_script) (PySem.W.mg_of X G a_made_script) h_made_sworn h_check_script c_MOST_COMMITS
  have h_is_script : Has l.prog w K mg base "is_script" 3 9 false m_is_script := ok_is_script (fun_mk (st := s_is_script) l_is_script c1_is_script k1_is_script) (PySem.W.mg_of X G a_is_script) l_is_let ls_all j_is_script (hTB (kc_is_script, P_is_script) (.tail _ (.tail _ (.head _)))) (.tail _ (.tail _ (.head _))) (ku_of (T := T.T) nd_all (.tail _ (.tail _ (.head _)))) h_made_script
  have h_law_right : Has l.prog w K mg base "_law_right" 3 10 true m_law_right := ok_law_right (fun_mk (st := s_law_right) l_law_right c1_law_right k1_law_right) (PySem.W.mg_of X G a_law_right) h_law_wrong n_repr hd_law_heard j_law_right (hTB (kc_law_right, P_law_right) (.tail _ (.head _))) (.tail _ (.head _)) (ku_of (T := T.T) nd_all (.tail _ (.head _))) h_made_script h_is_script
  have h_law_long_right : Has l.prog w K mg base "_law_long_right" 0 10 true m_law_long_right := ok_law_long_right (fun_mk (st := s_law_long_right) l_law_long_right c1_law_long_right k1_law_long_right) (PySem.W.mg_of X G a_law_long_right) h_made_script h_is_script n_repr hd_law_heard j_law_long_right (hTB (kc_law_long_right, P_law_long_right) (.tail _ (.tail _ (.tail _ (.head _))))) (.tail _ (.tail _ (.tail _ (.head _)))) (ku_of (T := T.T) nd_all (.tail _ (.tail _ (.tail _ (.head _)))))
  exact g_law (fun_mk (st := s_law) l_law c1_law k1_law) h_law_pool n_repr hd_law_heard j_law (hTB (kc_law, P_law) (.head _)) (.head _) (ku_of (T := T.T) nd_all (.head _)) h_made_script h_law_draw h_law_stand_rims h_law_stand_sizes h_law_stand_great h_law_stand_sworn h_law_stand_script h_law_right n_range h_law_bent h_law_pick h_is_script h_law_long_right
end MV
open PySem PySem.W PyProof.Rows in
set_option maxRecDepth 100000 in
set_option maxHeartbeats 0 in
theorem PySem.Challenge.cw_movingpays_k07_scripts_judged_holds : PySem.Challenge.rw_movingpays_k07_scripts_judged.Holds := by
  w_on; o_law; k_head; (case hw => w_witness2)
  k_fill
  refine MV.walk_end (l := PySem.Challenge.rw_movingpays_k07_scripts_judged) (n := 63) (k := 11) (nb := true) (x := "script") (m := MV.m_law) rfl (by decide) rfl ⟨rfl, by decide, by decide⟩ (fun w h Y => PySem.W.km_in_of Y) ?F (fun ns hl => MV.law_true ns hl)
  case F =>
    intro w mg fa h Y KX G hmg
    refine' MV.all_mk KX G hmg ?z_len ?z_int ?z_list ?z_isinstance ?z_bool ?z_tuple ?z_range ?a_BOUNDS ?q_t_BOUNDS_1 ?q_t_BOUNDS_2 ?q_t_BOUNDS_5 ?q_t_BOUNDS_8 ?q_t_BOUNDS_11 ?q_t_BOUNDS_14 ?q_t_BOUNDS_17 ?a_MOST_BLOCKS ?z_max ?a_MOST_COMMITS ?z_sorted ?z_enumerate ?z_repr ?a_BadSworn ?e_BadSworn ?a_FewRecords ?e_FewRecords ?a_BadSizes ?e_BadSizes ?a_FewSpares ?e_FewSpares ?a_TooMany ?e_TooMany ?a_BadScript ?e_BadScript ?a_Sworn ?e_Sworn ?a_Gap ?e_Gap ?a_Refused ?e_Refused ?l_init ?c1_init ?k1_init ?t1_init ?b1_R ?b2_R ?b3_R ?s_Refused ?s_BadSizes ?s_FewSpares ?s_FewRecords ?s_TooMany ?s_BadSworn ?z_BadMany ?z_BadFlag ?z_BadCommit ?s_Sworn ?s_Gap ?s_BadScript ?z_BadLast ?z_BadBoard ?z_BadStand ?z_BadRecord ?z_BadStep ?z_NotFree ?z_Spent ?z_Empty ?z_BadLog ?z_BadHabit ?z_Stopped ?z_FewBlocks ?z_BadLot ?z_NothingBack ?z_NothingAgain ?z_BadImage ?z_Unlike ?z_Lost ?z_BadWorths ?z_BadBlocks ?z_BadBlock ?z_BadWrites ?z_BadText ?z_Twice ?z_TooDeep ?z_Long ?z_NoSizes ?z_NoStore ?a_is_let ?l_is_let ?c1_is_let ?k1_is_let ?a_law_heard ?l_law_heard ?c1_law_heard ?k1_law_heard ?z_ValueError ?ie_Sworn ?im_Sworn ?kr_Sworn ?kv_Sworn ?ie_Gap ?im_Gap ?kr_Gap ?kv_Gap ?ie_BadSworn ?im_BadSworn ?kr_BadSworn ?kv_BadSworn ?ie_BadSizes ?im_BadSizes ?kr_BadSizes ?kv_BadSizes ?ie_BadScript ?im_BadScript ?kr_BadScript ?kv_BadScript ?isp_ ?itk_ ?sr_law_heard_BadScript ?sr_law_heard_Gap ?sr_law_heard_Sworn ?sr_law_heard_BadSworn ?sr_law_heard_TooMany ?sr_law_heard_FewRecords ?sr_law_heard_FewSpares ?sr_law_heard_BadSizes ?sr_law_heard_Refused ?a_law_pool ?l_law_pool ?c1_law_pool ?k1_law_pool ?a_is_number ?l_is_number ?c1_is_number ?k1_is_number ?a_is_tuple_of ?l_is_tuple_of ?c1_is_tuple_of ?k1_is_tuple_of ?a_drawn_of ?l_drawn_of ?c1_drawn_of ?k1_drawn_of ?a_blocks_of ?l_blocks_of ?c1_blocks_of ?k1_blocks_of ?a_first_of ?l_first_of ?c1_first_of ?k1_first_of ?a_resting ?l_resting ?c1_resting ?k1_resting ?a_law_draw ?l_law_draw ?c1_law_draw ?k1_law_draw ?a_law_stand_may ?l_law_stand_may ?c1_law_stand_may ?k1_law_stand_may ?a_law_stand_behind ?l_law_stand_behind ?c1_law_stand_behind ?k1_law_stand_behind ?a_law_is_form ?l_law_is_form ?c1_law_is_form ?k1_law_is_form ?a_is_between ?l_is_between ?c1_is_between ?k1_is_between ?a_law_stand_rims ?l_law_stand_rims ?c1_law_stand_rims ?k1_law_stand_rims ?a_law_pick ?l_law_pick ?c1_law_pick ?k1_law_pick ?a_law_turned ?l_law_turned ?c1_law_turned ?k1_law_turned ?a_law_wrong ?l_law_wrong ?c1_law_wrong ?k1_law_wrong ?a_check_sworn ?l_check_sworn ?c1_check_sworn ?k1_check_sworn ?a_made_sizes ?l_made_sizes ?c1_made_sizes ?k1_made_sizes ?a_is_rising ?l_is_rising ?c1_is_rising ?k1_is_rising ?a_law_stand_sizes ?l_law_stand_sizes ?c1_law_stand_sizes ?k1_law_stand_sizes ?a_law_stand_great ?l_law_stand_great ?c1_law_stand_great ?k1_law_stand_great ?a_law_stand_sworn ?l_law_stand_sworn ?c1_law_stand_sworn ?k1_law_stand_sworn ?a_law_stand_asked ?l_law_stand_asked ?c1_law_stand_asked ?k1_law_stand_asked ?a_law_bent_commit ?l_law_bent_commit ?c1_law_bent_commit ?k1_law_bent_commit ?a_made_sworn ?l_made_sworn ?c1_made_sworn ?k1_made_sworn ?a_is_commit_form ?l_is_commit_form ?c1_is_commit_form ?k1_is_commit_form ?a_law_stand_script ?l_law_stand_script ?c1_law_stand_script ?k1_law_stand_script ?a_law_bent ?l_law_bent ?c1_law_bent ?k1_law_bent ?a_check_script ?l_check_script ?c1_check_script ?k1_check_script ?a_made_script ?l_made_script ?c1_made_script ?k1_made_script ?a_is_script ?l_is_script ?c1_is_script ?k1_is_script ?j_is_script ?o_is_script ?p_is_script ?q_is_script ?u_is_script ?tb_is_script ?a_law_right ?l_law_right ?c1_law_right ?k1_law_right ?j_law_right ?o_law_right ?p_law_right ?q_law_right ?u_law_right ?tb_law_right ?a_law_long_right ?l_law_long_right ?c1_law_long_right ?k1_law_long_right ?j_law_long_right ?o_law_long_right ?p_law_long_right ?q_law_long_right ?u_law_long_right ?tb_law_long_right ?a_law ?l_law ?c1_law ?k1_law ?j_law ?o_law ?p_law ?q_law ?u_law ?tb_law ?nd_all
    (case z_len => k_is)
    (case z_int => k_is)
    (case z_list => k_is)
    (case z_isinstance => k_is)
    (case z_bool => k_is)
    (case z_tuple => k_is)
    (case z_range => k_is)
    (case a_BOUNDS => k_is)
    (case q_t_BOUNDS_1 => k_is)
    (case q_t_BOUNDS_2 => k_is)
    (case q_t_BOUNDS_5 => k_is)
    (case q_t_BOUNDS_8 => k_is)
    (case q_t_BOUNDS_11 => k_is)
    (case q_t_BOUNDS_14 => k_is)
    (case q_t_BOUNDS_17 => k_is)
    (case a_MOST_BLOCKS => k_is)
    (case z_max => k_is)
    (case a_MOST_COMMITS => k_is)
    (case z_sorted => k_is)
    (case z_enumerate => k_is)
    (case z_repr => k_is)
    (case a_BadSworn => k_is)
    (case e_BadSworn => refine' MV.exK_mk ?x1 ?x2 ?x3 ?x4 ?x5 ?x6 ?x7 ?x8 ?x9 ?xa ?xb; (case x1 => k_is); (case x2 => decide +kernel); (case x3 => k_is); (case x4 => k_is); (case x5 => k_is); (case x6 => k_is); (case x7 => k_is); (case x8 => k_is); (case x9 => k_is); (case xa => k_is); (case xb => k_is))
    (case a_FewRecords => k_is)
    (case e_FewRecords => refine' MV.exK_mk ?x1 ?x2 ?x3 ?x4 ?x5 ?x6 ?x7 ?x8 ?x9 ?xa ?xb; (case x1 => k_is); (case x2 => decide +kernel); (case x3 => k_is); (case x4 => k_is); (case x5 => k_is); (case x6 => k_is); (case x7 => k_is); (case x8 => k_is); (case x9 => k_is); (case xa => k_is); (case xb => k_is))
    (case a_BadSizes => k_is)
    (case e_BadSizes => refine' MV.exK_mk ?x1 ?x2 ?x3 ?x4 ?x5 ?x6 ?x7 ?x8 ?x9 ?xa ?xb; (case x1 => k_is); (case x2 => decide +kernel); (case x3 => k_is); (case x4 => k_is); (case x5 => k_is); (case x6 => k_is); (case x7 => k_is); (case x8 => k_is); (case x9 => k_is); (case xa => k_is); (case xb => k_is))
    (case a_FewSpares => k_is)
    (case e_FewSpares => refine' MV.exK_mk ?x1 ?x2 ?x3 ?x4 ?x5 ?x6 ?x7 ?x8 ?x9 ?xa ?xb; (case x1 => k_is); (case x2 => decide +kernel); (case x3 => k_is); (case x4 => k_is); (case x5 => k_is); (case x6 => k_is); (case x7 => k_is); (case x8 => k_is); (case x9 => k_is); (case xa => k_is); (case xb => k_is))
    (case a_TooMany => k_is)
    (case e_TooMany => refine' MV.exK_mk ?x1 ?x2 ?x3 ?x4 ?x5 ?x6 ?x7 ?x8 ?x9 ?xa ?xb; (case x1 => k_is); (case x2 => decide +kernel); (case x3 => k_is); (case x4 => k_is); (case x5 => k_is); (case x6 => k_is); (case x7 => k_is); (case x8 => k_is); (case x9 => k_is); (case xa => k_is); (case xb => k_is))
    (case a_BadScript => k_is)
    (case e_BadScript => refine' MV.exK_mk ?x1 ?x2 ?x3 ?x4 ?x5 ?x6 ?x7 ?x8 ?x9 ?xa ?xb; (case x1 => k_is); (case x2 => decide +kernel); (case x3 => k_is); (case x4 => k_is); (case x5 => k_is); (case x6 => k_is); (case x7 => k_is); (case x8 => k_is); (case x9 => k_is); (case xa => k_is); (case xb => k_is))
    (case a_Sworn => k_is)
    (case e_Sworn => refine' MV.exK_mk ?x1 ?x2 ?x3 ?x4 ?x5 ?x6 ?x7 ?x8 ?x9 ?xa ?xb; (case x1 => k_is); (case x2 => decide +kernel); (case x3 => k_is); (case x4 => k_is); (case x5 => k_is); (case x6 => k_is); (case x7 => k_is); (case x8 => k_is); (case x9 => k_is); (case xa => k_is); (case xb => k_is))
    (case a_Gap => k_is)
    (case e_Gap => refine' MV.exK_mk ?x1 ?x2 ?x3 ?x4 ?x5 ?x6 ?x7 ?x8 ?x9 ?xa ?xb; (case x1 => k_is); (case x2 => decide +kernel); (case x3 => k_is); (case x4 => k_is); (case x5 => k_is); (case x6 => k_is); (case x7 => k_is); (case x8 => k_is); (case x9 => k_is); (case xa => k_is); (case xb => k_is))
    (case a_Refused => k_is)
    (case e_Refused => refine' MV.exK_mk ?x1 ?x2 ?x3 ?x4 ?x5 ?x6 ?x7 ?x8 ?x9 ?xa ?xb; (case x1 => k_is); (case x2 => decide +kernel); (case x3 => k_is); (case x4 => k_is); (case x5 => k_is); (case x6 => k_is); (case x7 => k_is); (case x8 => k_is); (case x9 => k_is); (case xa => k_is); (case xb => k_is))
    (case l_init => k_is)
    (case c1_init => k_is)
    (case k1_init => k_is)
    (case t1_init => k_is)
    (case b1_R => k_is)
    (case b2_R => k_is)
    (case b3_R => k_is)
    (case s_Refused => k_is)
    (case s_BadSizes => k_is)
    (case s_FewSpares => k_is)
    (case s_FewRecords => k_is)
    (case s_TooMany => k_is)
    (case s_BadSworn => k_is)
    (case z_BadMany => k_is)
    (case z_BadFlag => k_is)
    (case z_BadCommit => k_is)
    (case s_Sworn => k_is)
    (case s_Gap => k_is)
    (case s_BadScript => k_is)
    (case z_BadLast => k_is)
    (case z_BadBoard => k_is)
    (case z_BadStand => k_is)
    (case z_BadRecord => k_is)
    (case z_BadStep => k_is)
    (case z_NotFree => k_is)
    (case z_Spent => k_is)
    (case z_Empty => k_is)
    (case z_BadLog => k_is)
    (case z_BadHabit => k_is)
    (case z_Stopped => k_is)
    (case z_FewBlocks => k_is)
    (case z_BadLot => k_is)
    (case z_NothingBack => k_is)
    (case z_NothingAgain => k_is)
    (case z_BadImage => k_is)
    (case z_Unlike => k_is)
    (case z_Lost => k_is)
    (case z_BadWorths => k_is)
    (case z_BadBlocks => k_is)
    (case z_BadBlock => k_is)
    (case z_BadWrites => k_is)
    (case z_BadText => k_is)
    (case z_Twice => k_is)
    (case z_TooDeep => k_is)
    (case z_Long => k_is)
    (case z_NoSizes => k_is)
    (case z_NoStore => k_is)
    (case a_is_let => k_is)
    (case l_is_let => k_is)
    (case c1_is_let => k_is)
    (case k1_is_let => k_is)
    (case a_law_heard => k_is)
    (case l_law_heard => k_is)
    (case c1_law_heard => k_is)
    (case k1_law_heard => k_is)
    (case z_ValueError => k_is)
    (case ie_Sworn => k_is)
    (case im_Sworn => k_is)
    (case kr_Sworn => kernel_rfl)
    (case kv_Sworn => kernel_rfl)
    (case ie_Gap => k_is)
    (case im_Gap => k_is)
    (case kr_Gap => kernel_rfl)
    (case kv_Gap => kernel_rfl)
    (case ie_BadSworn => k_is)
    (case im_BadSworn => k_is)
    (case kr_BadSworn => kernel_rfl)
    (case kv_BadSworn => kernel_rfl)
    (case ie_BadSizes => k_is)
    (case im_BadSizes => k_is)
    (case kr_BadSizes => kernel_rfl)
    (case kv_BadSizes => kernel_rfl)
    (case ie_BadScript => k_is)
    (case im_BadScript => k_is)
    (case kr_BadScript => kernel_rfl)
    (case kv_BadScript => kernel_rfl)
    (case isp_ => k_is)
    (case itk_ => k_is)
    (case sr_law_heard_BadScript => kernel_rfl)
    (case sr_law_heard_Gap => kernel_rfl)
    (case sr_law_heard_Sworn => kernel_rfl)
    (case sr_law_heard_BadSworn => kernel_rfl)
    (case sr_law_heard_TooMany => kernel_rfl)
    (case sr_law_heard_FewRecords => kernel_rfl)
    (case sr_law_heard_FewSpares => kernel_rfl)
    (case sr_law_heard_BadSizes => kernel_rfl)
    (case sr_law_heard_Refused => kernel_rfl)
    (case a_law_pool => k_is)
    (case l_law_pool => k_is)
    (case c1_law_pool => k_is)
    (case k1_law_pool => k_is)
    (case a_is_number => k_is)
    (case l_is_number => k_is)
    (case c1_is_number => k_is)
    (case k1_is_number => k_is)
    (case a_is_tuple_of => k_is)
    (case l_is_tuple_of => k_is)
    (case c1_is_tuple_of => k_is)
    (case k1_is_tuple_of => k_is)
    (case a_drawn_of => k_is)
    (case l_drawn_of => k_is)
    (case c1_drawn_of => k_is)
    (case k1_drawn_of => k_is)
    (case a_blocks_of => k_is)
    (case l_blocks_of => k_is)
    (case c1_blocks_of => k_is)
    (case k1_blocks_of => k_is)
    (case a_first_of => k_is)
    (case l_first_of => k_is)
    (case c1_first_of => k_is)
    (case k1_first_of => k_is)
    (case a_resting => k_is)
    (case l_resting => k_is)
    (case c1_resting => k_is)
    (case k1_resting => k_is)
    (case a_law_draw => k_is)
    (case l_law_draw => k_is)
    (case c1_law_draw => k_is)
    (case k1_law_draw => k_is)
    (case a_law_stand_may => k_is)
    (case l_law_stand_may => k_is)
    (case c1_law_stand_may => k_is)
    (case k1_law_stand_may => k_is)
    (case a_law_stand_behind => k_is)
    (case l_law_stand_behind => k_is)
    (case c1_law_stand_behind => k_is)
    (case k1_law_stand_behind => k_is)
    (case a_law_is_form => k_is)
    (case l_law_is_form => k_is)
    (case c1_law_is_form => k_is)
    (case k1_law_is_form => k_is)
    (case a_is_between => k_is)
    (case l_is_between => k_is)
    (case c1_is_between => k_is)
    (case k1_is_between => k_is)
    (case a_law_stand_rims => k_is)
    (case l_law_stand_rims => k_is)
    (case c1_law_stand_rims => k_is)
    (case k1_law_stand_rims => k_is)
    (case a_law_pick => k_is)
    (case l_law_pick => k_is)
    (case c1_law_pick => k_is)
    (case k1_law_pick => k_is)
    (case a_law_turned => k_is)
    (case l_law_turned => k_is)
    (case c1_law_turned => k_is)
    (case k1_law_turned => k_is)
    (case a_law_wrong => k_is)
    (case l_law_wrong => k_is)
    (case c1_law_wrong => k_is)
    (case k1_law_wrong => k_is)
    (case a_check_sworn => k_is)
    (case l_check_sworn => k_is)
    (case c1_check_sworn => k_is)
    (case k1_check_sworn => k_is)
    (case a_made_sizes => k_is)
    (case l_made_sizes => k_is)
    (case c1_made_sizes => k_is)
    (case k1_made_sizes => k_is)
    (case a_is_rising => k_is)
    (case l_is_rising => k_is)
    (case c1_is_rising => k_is)
    (case k1_is_rising => k_is)
    (case a_law_stand_sizes => k_is)
    (case l_law_stand_sizes => k_is)
    (case c1_law_stand_sizes => k_is)
    (case k1_law_stand_sizes => k_is)
    (case a_law_stand_great => k_is)
    (case l_law_stand_great => k_is)
    (case c1_law_stand_great => k_is)
    (case k1_law_stand_great => k_is)
    (case a_law_stand_sworn => k_is)
    (case l_law_stand_sworn => k_is)
    (case c1_law_stand_sworn => k_is)
    (case k1_law_stand_sworn => k_is)
    (case a_law_stand_asked => k_is)
    (case l_law_stand_asked => k_is)
    (case c1_law_stand_asked => k_is)
    (case k1_law_stand_asked => k_is)
    (case a_law_bent_commit => k_is)
    (case l_law_bent_commit => k_is)
    (case c1_law_bent_commit => k_is)
    (case k1_law_bent_commit => k_is)
    (case a_made_sworn => k_is)
    (case l_made_sworn => k_is)
    (case c1_made_sworn => k_is)
    (case k1_made_sworn => k_is)
    (case a_is_commit_form => k_is)
    (case l_is_commit_form => k_is)
    (case c1_is_commit_form => k_is)
    (case k1_is_commit_form => k_is)
    (case a_law_stand_script => k_is)
    (case l_law_stand_script => k_is)
    (case c1_law_stand_script => k_is)
    (case k1_law_stand_script => k_is)
    (case a_law_bent => k_is)
    (case l_law_bent => k_is)
    (case c1_law_bent => k_is)
    (case k1_law_bent => k_is)
    (case a_check_script => k_is)
    (case l_check_script => k_is)
    (case c1_check_script => k_is)
    (case k1_check_script => k_is)
    (case a_made_script => k_is)
    (case l_made_script => k_is)
    (case c1_made_script => k_is)
    (case k1_made_script => k_is)
    (case a_is_script => k_is)
    (case l_is_script => k_is)
    (case c1_is_script => k_is)
    (case k1_is_script => k_is)
    (case j_is_script => rfl)
    (case o_is_script => k_is)
    (case p_is_script => rfl)
    (case q_is_script => kernel_rfl)
    (case u_is_script => kernel_rfl)
    (case tb_is_script => exact PySem.W.km_tabs_of Y _ (by decide))
    (case a_law_right => k_is)
    (case l_law_right => k_is)
    (case c1_law_right => k_is)
    (case k1_law_right => k_is)
    (case j_law_right => rfl)
    (case o_law_right => k_is)
    (case p_law_right => rfl)
    (case q_law_right => kernel_rfl)
    (case u_law_right => kernel_rfl)
    (case tb_law_right => exact PySem.W.km_tabs_of Y _ (by decide))
    (case a_law_long_right => k_is)
    (case l_law_long_right => k_is)
    (case c1_law_long_right => k_is)
    (case k1_law_long_right => k_is)
    (case j_law_long_right => rfl)
    (case o_law_long_right => k_is)
    (case p_law_long_right => rfl)
    (case q_law_long_right => kernel_rfl)
    (case u_law_long_right => kernel_rfl)
    (case tb_law_long_right => exact PySem.W.km_tabs_of Y _ (by decide))
    (case a_law => k_is)
    (case l_law => k_is)
    (case c1_law => k_is)
    (case k1_law => k_is)
    (case j_law => rfl)
    (case o_law => k_is)
    (case p_law => rfl)
    (case q_law => kernel_rfl)
    (case u_law => kernel_rfl)
    (case tb_law => exact PySem.W.km_tabs_of Y _ (by decide))
    (case nd_all => decide)
