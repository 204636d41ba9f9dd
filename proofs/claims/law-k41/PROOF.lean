import PyProof.Rows.All
import Wide.All
import OpenK.AllK
import Wide.FinOn
import HandS.ForMost
import HandS.ForExc
import HandS.IsInst
import HandS.Deep
import HandS.DeepEq
import HandS.SetKeys
import HandS.Wide
import HandS.SortInts
import HandS.TupAny
import HandS.Rev
import HandS.RevTup
import HandS.Zip
import HandS.Walk
import HandS.TupSets
import HandS.SortOrd
import HandS.Steps
import HandS.NamedTupSort
import HandS.NoneIn
import KE.GoesEnum
import PySem.Challenge.RW_talejudge_k41_whole_as_one_by_one
set_option Elab.async false
set_option linter.all false
set_option maxRecDepth 100000
set_option maxHeartbeats 1000000
/-! Tk: a logic of data over the layer's readings: an environment of data in place of slots and heap. -/
namespace Tk
open PySem PySem.Spec PyProof.Rows L2

/-- data: dict: the keys are ints and texts, dictT: tuples of such -/
inductive D where
  | none
  | bool (b : Bool)
  | int (i : Int)
  | str (s : Str)
  | list (ds : List D)
  | tuple (ds : List D)
  | dict (kds : List (Key × D))
  | dictT (kds : List (List Key × D))
/-- what a slot is known to hold: nothing, a datum that stays, a list or dict of the def's own that nobody else holds, a dict that a loop walks -/
inductive Ent where
  | no
  | im (d : D)
  | mu (d : D)
  | lk (a : Addr) (kds : List (Key × D))
  | ptr (a : Addr)
abbrev Ro := List Ent
abbrev FS := Addr → Prop

mutual
/-- v stands for the datum, all its objects among F -/
def Rp (F : FS) (H : Hp) : D → V → Prop
  | .none, v => v = .non
  | .bool b, v => v = .bl b
  | .int i, v => v = .int i
  | .str s, v => v = .str s
  | .list ds, v => ∃ a xs, v = .ref a ∧ F a ∧ H a = some (.lst xs) ∧ Rps F H ds xs
  | .tuple ds, v => ∃ a xs, v = .ref a ∧ F a ∧ H a = some (.tup xs) ∧ Rps F H ds xs
  | .dict kds, v => ∃ a kvs, v = .ref a ∧ F a ∧ H a = some (.dK kvs) ∧ RpK F H kds kvs
  | .dictT kds, v => ∃ a kvs, v = .ref a ∧ F a ∧ H a = some (.dT kvs) ∧ RpT F H kds kvs
def Rps (F : FS) (H : Hp) : List D → List V → Prop
  | [], vs => vs = []
  | d :: ds, vs => ∃ v ws, vs = v :: ws ∧ Rp F H d v ∧ Rps F H ds ws
def RpK (F : FS) (H : Hp) : List (Key × D) → List (Key × V) → Prop
  | [], kvs => kvs = []
  | (k, d) :: r, kvs => ∃ v ws, kvs = (k, v) :: ws ∧ Rp F H d v ∧ RpK F H r ws
def RpT (F : FS) (H : Hp) : List (List Key × D) → List (List Key × V) → Prop
  | [], kvs => kvs = []
  | (k, d) :: r, kvs => ∃ v ws, kvs = (k, v) :: ws ∧ Rp F H d v ∧ RpT F H r ws
end

/-- what keeps data -/
structure Mo (F : FS) (H : Hp) (F' : FS) (H' : Hp) : Prop where
  f : ∀ a, F a → F' a
  e : ∀ a o, F a → H a = some o → H' a = some o

mutual
theorem Rp.mo {F : FS} {H : Hp} {F' : FS} {H' : Hp} (m : Mo F H F' H') : ∀ (d : D) (v : V), Rp F H d v → Rp F' H' d v
  | .none, _, h => h
  | .bool _, _, h => h
  | .int _, _, h => h
  | .str _, _, h => h
  | .list ds, v, h => by
    obtain ⟨a, xs, e, f, ha, r⟩ := h
    exact ⟨a, xs, e, m.f a f, m.e a _ f ha, Rps.mo m ds xs r⟩
  | .tuple ds, v, h => by
    obtain ⟨a, xs, e, f, ha, r⟩ := h
    exact ⟨a, xs, e, m.f a f, m.e a _ f ha, Rps.mo m ds xs r⟩
  | .dict kds, v, h => by
    obtain ⟨a, kvs, e, f, r, q⟩ := h
    exact ⟨a, kvs, e, m.f a f, m.e a _ f r, RpK.mo m kds kvs q⟩
  | .dictT kds, v, h => by
    obtain ⟨a, kvs, e, f, r, q⟩ := h
    exact ⟨a, kvs, e, m.f a f, m.e a _ f r, RpT.mo m kds kvs q⟩
theorem Rps.mo {F : FS} {H : Hp} {F' : FS} {H' : Hp} (m : Mo F H F' H') : ∀ (ds : List D) (vs : List V), Rps F H ds vs → Rps F' H' ds vs
  | [], _, h => h
  | d :: ds, vs, h => by
    obtain ⟨v, ws, e, p, q⟩ := h
    exact ⟨v, ws, e, Rp.mo m d v p, Rps.mo m ds ws q⟩
theorem RpK.mo {F : FS} {H : Hp} {F' : FS} {H' : Hp} (m : Mo F H F' H') : ∀ (ds : List (Key × D)) (vs : List (Key × V)), RpK F H ds vs → RpK F' H' ds vs
  | [], _, h => h
  | (k, d) :: ds, vs, h => by
    obtain ⟨v, ws, e, p, q⟩ := h
    exact ⟨v, ws, e, Rp.mo m d v p, RpK.mo m ds ws q⟩
theorem RpT.mo {F : FS} {H : Hp} {F' : FS} {H' : Hp} (m : Mo F H F' H') : ∀ (ds : List (List Key × D)) (vs : List (List Key × V)), RpT F H ds vs → RpT F' H' ds vs
  | [], _, h => h
  | (k, d) :: ds, vs, h => by
    obtain ⟨v, ws, e, p, q⟩ := h
    exact ⟨v, ws, e, Rp.mo m d v p, RpT.mo m ds ws q⟩
end

/-- the heap has grown: what was tracked is as it was, new members of F are new objects -/
structure Gw (F : FS) (H : Hp) (F' : FS) (H' : Hp) : Prop where
  f : ∀ a, F a → F' a
  s : Same H H'
  n : ∀ a, F' a → F a ∨ H a = none
  h : ∀ a, F' a → H' a ≠ none
theorem Gw.mo {F : FS} {H : Hp} {F' : FS} {H' : Hp} (g : Gw F H F' H') : Mo F H F' H' := ⟨g.f, fun _ _ _ h => g.s _ _ h⟩
theorem Gw.refl {F : FS} {H : Hp} (h : ∀ a, F a → H a ≠ none) : Gw F H F H := ⟨fun _ h => h, Same.refl H, fun _ h => .inl h, h⟩
theorem Gw.trans {F : FS} {H : Hp} {F1 : FS} {H1 : Hp} {F2 : FS} {H2 : Hp} (g : Gw F H F1 H1) (k : Gw F1 H1 F2 H2) : Gw F H F2 H2 :=
  ⟨fun a h => k.f a (g.f a h), g.s.trans k.s, fun a h => by
    rcases k.n a h with q | q
    · exact g.n a q
    · exact .inr (g.s.free q), k.h⟩
def addF (F : FS) (p : Addr) : FS := fun a => F a ∨ a = p
theorem same_new {H : Hp} {p : Addr} {o : HO} (h : H p = none) : Same H (upd H p o) := fun b u e => by
  rw [upd_ne (ne_of_none e h)]
  exact e
theorem Gw.new {F : FS} {H : Hp} {p : Addr} {o : HO} (hF : ∀ a, F a → H a ≠ none) (h : H p = none) : Gw F H (addF F p) (upd H p o) :=
  ⟨fun a k => .inl k, same_new h, fun a k => by
    rcases k with k | k
    · exact .inl k
    · exact .inr (k ▸ h), fun a k => by
    by_cases c : a = p
    · rw [c, upd_same]
      exact fun z => nomatch z
    · rw [upd_ne c]
      rcases k with k | k
      · exact hF a k
      · exact absurd k c⟩
theorem Rp.gw {F : FS} {H : Hp} {F' : FS} {H' : Hp} {d : D} {v : V} (h : Rp F H d v) (g : Gw F H F' H') : Rp F' H' d v := Rp.mo g.mo d v h
theorem Rps.gw {F : FS} {H : Hp} {F' : FS} {H' : Hp} {d : List D} {v : List V} (h : Rps F H d v) (g : Gw F H F' H') : Rps F' H' d v := Rps.mo g.mo d v h

/-- the content of a list or dict of one's own -/
def MutC (F : FS) (H : Hp) : D → Addr → Prop
  | .list ds, p => ∃ xs, H p = some (.lst xs) ∧ Rps F H ds xs
  | .dict kds, p => ∃ kvs, H p = some (.dK kvs) ∧ RpK F H kds kvs
  | .dictT kds, p => ∃ kvs, H p = some (.dT kvs) ∧ RpT F H kds kvs
  | _, _ => False
theorem MutC.ne {F : FS} {H : Hp} {p : Addr} : ∀ {d : D}, MutC F H d p → H p ≠ none
  | .list ds, h => by
    obtain ⟨xs, e, _⟩ := h
    rw [e]
    exact fun z => nomatch z
  | .dict kds, h => by
    obtain ⟨xs, e, _⟩ := h
    rw [e]
    exact fun z => nomatch z
  | .dictT kds, h => by
    obtain ⟨xs, e, _⟩ := h
    rw [e]
    exact fun z => nomatch z
  | .none, h => h.elim
  | .bool _, h => h.elim
  | .int _, h => h.elim
  | .str _, h => h.elim
  | .tuple _, h => h.elim
theorem MutC.at {F : FS} {H : Hp} {F' : FS} {H' : Hp} (m : Mo F H F' H') {p : Addr} (e : H' p = H p) : ∀ {d : D}, MutC F H d p → MutC F' H' d p
  | .list ds, h => by
    obtain ⟨xs, z, q⟩ := h
    exact ⟨xs, e.trans z, Rps.mo m _ _ q⟩
  | .dict kds, h => by
    obtain ⟨xs, z, q⟩ := h
    exact ⟨xs, e.trans z, RpK.mo m _ _ q⟩
  | .dictT kds, h => by
    obtain ⟨xs, z, q⟩ := h
    exact ⟨xs, e.trans z, RpT.mo m _ _ q⟩
  | .none, h => h.elim
  | .bool _, h => h.elim
  | .int _, h => h.elim
  | .str _, h => h.elim
  | .tuple _, h => h.elim
/-- frozen: once it is among F it is a datum -/
theorem MutC.rp {F : FS} {H : Hp} {p : Addr} (f : F p) : ∀ {d : D}, MutC F H d p → Rp F H d (.ref p)
  | .list ds, h => by
    obtain ⟨xs, z, q⟩ := h
    exact ⟨p, xs, rfl, f, z, q⟩
  | .dict kds, h => by
    obtain ⟨kvs, z, q⟩ := h
    exact ⟨p, kvs, rfl, f, z, q⟩
  | .dictT kds, h => by
    obtain ⟨kvs, z, q⟩ := h
    exact ⟨p, kvs, rfl, f, z, q⟩
  | .none, h => h.elim
  | .bool _, h => h.elim
  | .int _, h => h.elim
  | .str _, h => h.elim
  | .tuple _, h => h.elim

/-- the state at the def's entry -/
structure Bs where
  F : FS
  H : Hp
structure EnvR (B : Bs) (F : FS) (H : Hp) (σ : L2.St) (ρ : Ro) : Prop where
  len : σ.length = ρ.length
  im : ∀ (i : Nat) (d : D), ρ[i]? = some (Ent.im d) → ∃ v, σ[i]? = some (some v) ∧ Rp F H d v
  mu : ∀ (i : Nat) (d : D), ρ[i]? = some (Ent.mu d) → ∃ p, σ[i]? = some (some (V.ref p)) ∧ ¬ F p ∧ B.H p = none ∧ MutC F H d p
  dis : ∀ (i j : Nat) (d e : D) (p : Addr), ρ[i]? = some (Ent.mu d) → ρ[j]? = some (Ent.mu e) → σ[i]? = some (some (V.ref p)) → σ[j]? = some (some (V.ref p)) → i = j
  lk : ∀ (i : Nat) (a : Addr) (kds : List (Key × D)), ρ[i]? = some (Ent.lk a kds) → ∃ o kvs, σ[i]? = some (some (V.ref a)) ∧ H a = some (.frz o (.dK kvs)) ∧ RpK F H kds kvs
  pt : ∀ (i : Nat) (a : Addr), ρ[i]? = some (Ent.ptr a) → σ[i]? = some (some (V.ref a))
  fh : ∀ a, F a → H a ≠ none
  bf : ∀ a, B.F a → F a
  bs : Same B.H H
  bn : ∀ a, F a → B.F a ∨ B.H a = none
theorem EnvR.gw {B : Bs} {F : FS} {H : Hp} {F' : FS} {H' : Hp} {σ : L2.St} {ρ : Ro} (e : EnvR B F H σ ρ) (g : Gw F H F' H') : EnvR B F' H' σ ρ where
  len := e.len
  im := fun i d h => by
    obtain ⟨v, a, b⟩ := e.im i d h
    exact ⟨v, a, b.gw g⟩
  mu := fun i d h => by
    obtain ⟨p, a, nf, nb, m⟩ := e.mu i d h
    refine ⟨p, a, fun f => ?_, nb, m.at g.mo ?_⟩
    · rcases g.n p f with q | q
      · exact nf q
      · exact m.ne q
    · cases c : H p with
      | none => exact absurd c m.ne
      | some o => exact g.s _ _ c
  dis := e.dis
  lk := fun i a kds h => by
    obtain ⟨o, kvs, x, y, z⟩ := e.lk i a kds h
    exact ⟨o, kvs, x, g.s _ _ y, RpK.mo g.mo _ _ z⟩
  pt := e.pt
  fh := g.h
  bf := fun a h => g.f a (e.bf a h)
  bs := e.bs.trans g.s
  bn := fun a h => by
    rcases g.n a h with q | q
    · exact e.bn a q
    · exact .inr (e.bs.free q)
theorem EnvR.ex {B : Bs} {F : FS} {H : Hp} {σ : L2.St} {ρ : Ro} (e : EnvR B F H σ ρ) : Gw B.F B.H F H := ⟨e.bf, e.bs, e.bn, e.fh⟩

/-! ### expressions -/
/-- in the environment ρ the expression gives a datum of P -/
def EvP (te : TE) (ρ : Ro) (P : D → Prop) : Prop := ∀ B F H σ, EnvR B F H σ ρ → ∀ Q : VK, (∀ d v F' H', P d → Gw F H F' H' → Rp F' H' d v → Q v H') → te σ H Q
/-- .. the datum d -/
def Ev (te : TE) (ρ : Ro) (d : D) : Prop := ∀ B F H σ, EnvR B F H σ ρ → ∀ Q : VK, (∀ v F' H', Gw F H F' H' → Rp F' H' d v → Q v H') → te σ H Q
/-- .. a new list or dict that nobody holds -/
def EvN (te : TE) (ρ : Ro) (d : D) : Prop := ∀ B F H σ, EnvR B F H σ ρ → ∀ Q : VK, (∀ p F' H', H p = none → Gw F H F' H' → ¬ F' p → MutC F' H' d p → Q (.ref p) H') → te σ H Q
def EvT (tt : TT) (ρ : Ro) (b : Bool) : Prop := ∀ B F H σ, EnvR B F H σ ρ → ∀ Q : Bool → Hp → Prop, (∀ F' H', Gw F H F' H' → Q b H') → tt σ H Q
def EvA (ta : TA) (ρ : Ro) (ds : List D) : Prop := ∀ B F H σ, EnvR B F H σ ρ → ∀ Q : List V → Hp → Prop, (∀ vs F' H', Gw F H F' H' → Rps F' H' ds vs → Q vs H') → ta σ H Q
def EvAP (ta : TA) (ρ : Ro) (P : List D → Prop) : Prop := ∀ B F H σ, EnvR B F H σ ρ → ∀ Q : List V → Hp → Prop, (∀ ds vs F' H', P ds → Gw F H F' H' → Rps F' H' ds vs → Q vs H') → ta σ H Q
def EvO (to : TO) (ρ : Ro) (o : Option Int) : Prop := ∀ B F H σ, EnvR B F H σ ρ → ∀ Q : Option Int → Hp → Prop, (∀ F' H', Gw F H F' H' → Q o H') → to σ H Q
theorem Ev.p {te : TE} {ρ : Ro} {d : D} (h : Ev te ρ d) : EvP te ρ (· = d) := fun B F H σ e Q k => h B F H σ e Q fun v F' H' g r => k d v F' H' rfl g r
theorem EvP.to {te : TE} {ρ : Ro} {P P' : D → Prop} (h : EvP te ρ P) (w : ∀ d, P d → P' d) : EvP te ρ P' := fun B F H σ e Q k => h B F H σ e Q fun d v F' H' p g r => k d v F' H' (w d p) g r
theorem EvP.ev {te : TE} {ρ : Ro} {d : D} (h : EvP te ρ (· = d)) : Ev te ρ d := fun B F H σ e Q k => h B F H σ e Q fun d' v F' H' p g r => by
  subst p
  exact k v F' H' g r
theorem Ev.cast {te : TE} {ρ : Ro} {d d' : D} (h : Ev te ρ d) (e : d = d') : Ev te ρ d' := e ▸ h
theorem EvT.cast {te : TT} {ρ : Ro} {d d' : Bool} (h : EvT te ρ d) (e : d = d') : EvT te ρ d' := e ▸ h
theorem gw_mut {F : FS} {H : Hp} {F' : FS} {H' : Hp} {p : Addr} (g : Gw F H F' H') (hp : H p = none) (hp' : H' p ≠ none) : Gw F H (addF F' p) H' :=
  ⟨fun a h => .inl (g.f a h), g.s, fun a h => by
    rcases h with h | h
    · exact g.n a h
    · exact .inr (h ▸ hp), fun a h => by
    rcases h with h | h
    · exact g.h a h
    · exact h ▸ hp'⟩
theorem mo_add {F : FS} {H : Hp} {p : Addr} : Mo F H (addF F p) H := ⟨fun _ h => .inl h, fun _ _ _ h => h⟩
theorem EvN.ev {te : TE} {ρ : Ro} {d : D} (h : EvN te ρ d) : Ev te ρ d := fun B F H σ e Q k => h B F H σ e Q fun p F' H' hp g nf m =>
  k (.ref p) (addF F' p) H' (gw_mut g hp m.ne) (MutC.rp (.inr rfl) (m.at mo_add rfl))

section
variable {ρ : Ro} {ta tb tc te td ty tx : TE} {d e f : D}
theorem ev_var {i : Nat} (h : ρ[i]? = some (Ent.im d)) : Ev (tVar i) ρ d := fun B F H σ e Q k => by
  obtain ⟨v, a, r⟩ := e.im i d h
  exact ⟨v, a, k v F H (Gw.refl e.fh) r⟩
theorem ev_int {i : Int} : Ev (tC (.int i)) ρ (.int i) := fun B F H σ e Q k => k _ F H (Gw.refl e.fh) rfl
theorem ev_str {i : Str} : Ev (tC (.str i)) ρ (.str i) := fun B F H σ e Q k => k _ F H (Gw.refl e.fh) rfl
theorem ev_bl {i : Bool} : Ev (tC (.bl i)) ρ (.bool i) := fun B F H σ e Q k => k _ F H (Gw.refl e.fh) rfl
theorem ev_non : Ev (tC .non) ρ .none := fun B F H σ e Q k => k _ F H (Gw.refl e.fh) rfl

/-- an operator by its data -/
def RvD (r : R2) (d e f : D) : Prop := ∀ (F : FS) (H : Hp) (x y : V) (Q : VK), (∀ a, F a → H a ≠ none) → Rp F H d x → Rp F H e y → (∀ v F' H', Gw F H F' H' → Rp F' H' f v → Q v H') → r x y H Q
theorem ev_op {r : R2} (ha : Ev ta ρ d) (hb : Ev tb ρ e) (hr : RvD r d e f) : Ev (tOp r ta tb) ρ f := fun B F H σ en Q k =>
  ha B F H σ en _ fun x F1 H1 g1 r1 => hb B F1 H1 σ (en.gw g1) _ fun y F2 H2 g2 r2 => hr F2 H2 x y Q g2.h (r1.gw g2) r2 fun v F' H' g3 r3 => k v F' H' ((g1.trans g2).trans g3) r3
theorem ev_un {i : Int} {g : Int → V} (ha : Ev ta ρ (.int i)) (hr : ∀ F H, Rp F H f (g i)) : Ev (tUn (rU g) ta) ρ f := fun B F H σ en Q k =>
  ha B F H σ en _ fun x F1 H1 g1 r1 => ⟨i, r1, k _ F1 H1 g1 (hr F1 H1)⟩
theorem rv_I0 {g : Int → Int → V} {i j : Int} (h : ∀ F H, Rp F H f (g i j)) : RvD (rI0 g) (.int i) (.int j) f := fun F H x y Q hF hx hy k => ⟨i, j, hx, hy, k _ F H (Gw.refl hF) (h F H)⟩
theorem rv_I {C : Int → Int → Prop} {g : Int → Int → V} {i j : Int} (c : C i j) (h : ∀ F H, Rp F H f (g i j)) : RvD (rI C g) (.int i) (.int j) f := fun F H x y Q hF hx hy k => ⟨i, j, hx, hy, c, k _ F H (Gw.refl hF) (h F H)⟩
theorem rv_add {i j : Int} : RvD (rI0 fun i j => .int (i + j)) (.int i) (.int j) (.int (i + j)) := rv_I0 fun _ _ => rfl
theorem rv_sub {i j : Int} : RvD (rI0 fun i j => .int (i - j)) (.int i) (.int j) (.int (i - j)) := rv_I0 fun _ _ => rfl
theorem rv_lt {i j : Int} : RvD (rI0 fun i j => .bl (decide (i < j))) (.int i) (.int j) (.bool (decide (i < j))) := rv_I0 fun _ _ => rfl
theorem rv_le {i j : Int} : RvD (rI0 fun i j => .bl (decide (i ≤ j))) (.int i) (.int j) (.bool (decide (i ≤ j))) := rv_I0 fun _ _ => rfl
theorem rv_gt {i j : Int} : RvD (rI0 fun i j => .bl (decide (j < i))) (.int i) (.int j) (.bool (decide (j < i))) := rv_I0 fun _ _ => rfl
theorem rv_ge {i j : Int} : RvD (rI0 fun i j => .bl (decide (j ≤ i))) (.int i) (.int j) (.bool (decide (j ≤ i))) := rv_I0 fun _ _ => rfl
theorem rv_eqI {i j : Int} : RvD rEq (.int i) (.int j) (.bool (decide (i = j))) := fun F H x y Q hF hx hy k => by
  have hx : x = .int i := hx
  have hy : y = .int j := hy
  subst hx hy
  refine ⟨rfl, k _ F H (Gw.refl hF) ?_⟩
  show V.bl _ = V.bl _
  by_cases c : i = j
  · simp [c]
  · rw [decide_eq_false c, decide_eq_false (fun z => c (V.int.inj z))]
theorem rv_neI {i j : Int} : RvD rNe (.int i) (.int j) (.bool (!decide (i = j))) := fun F H x y Q hF hx hy k => by
  have hx : x = .int i := hx
  have hy : y = .int j := hy
  subst hx hy
  refine ⟨rfl, k _ F H (Gw.refl hF) ?_⟩
  show V.bl _ = V.bl _
  by_cases c : i = j
  · simp [c]
  · rw [decide_eq_false c, decide_eq_false (fun z => c (V.int.inj z))]
theorem rv_eqS {i j : Str} : RvD rEq (.str i) (.str j) (.bool (decide (i = j))) := fun F H x y Q hF hx hy k => by
  have hx : x = .str i := hx
  have hy : y = .str j := hy
  subst hx hy
  refine ⟨rfl, k _ F H (Gw.refl hF) ?_⟩
  show V.bl _ = V.bl _
  by_cases c : i = j
  · simp [c]
  · rw [decide_eq_false c, decide_eq_false (fun z => c (V.str.inj z))]
theorem rv_neS {i j : Str} : RvD rNe (.str i) (.str j) (.bool (!decide (i = j))) := fun F H x y Q hF hx hy k => by
  have hx : x = .str i := hx
  have hy : y = .str j := hy
  subst hx hy
  refine ⟨rfl, k _ F H (Gw.refl hF) ?_⟩
  show V.bl _ = V.bl _
  by_cases c : i = j
  · simp [c]
  · rw [decide_eq_false c, decide_eq_false (fun z => c (V.str.inj z))]
theorem rv_neB {i j : Bool} : RvD rNe (.bool i) (.bool j) (.bool (!decide (i = j))) := fun F H x y Q hF hx hy k => by
  have hx : x = .bl i := hx
  have hy : y = .bl j := hy
  subst hx hy
  refine ⟨rfl, k _ F H (Gw.refl hF) ?_⟩
  show V.bl _ = V.bl _
  by_cases c : i = j
  · simp [c]
  · rw [decide_eq_false c, decide_eq_false (fun z => c (V.bl.inj z))]

theorem ev_and {a b : Bool} (h1 : Ev ta ρ (.bool a)) (h2 : a = true → Ev tb ρ (.bool b)) : Ev (tAndV ta tb) ρ (.bool (a && b)) := fun B F H σ en Q k =>
  h1 B F H σ en _ fun x F1 H1 g1 r1 => ⟨a, r1, by
    cases a with
    | true =>
      rw [if_pos rfl]
      exact h2 rfl B F1 H1 σ (en.gw g1) Q fun y F2 H2 g2 r2 => k y F2 H2 (g1.trans g2) r2
    | false =>
      rw [if_neg Bool.false_ne_true]
      exact k _ F1 H1 g1 rfl⟩
theorem ev_or {a b : Bool} (h1 : Ev ta ρ (.bool a)) (h2 : a = false → Ev tb ρ (.bool b)) : Ev (tOrV ta tb) ρ (.bool (a || b)) := fun B F H σ en Q k =>
  h1 B F H σ en _ fun x F1 H1 g1 r1 => ⟨a, r1, by
    cases a with
    | true =>
      rw [if_pos rfl]
      exact k _ F1 H1 g1 rfl
    | false =>
      rw [if_neg Bool.false_ne_true]
      exact h2 rfl B F1 H1 σ (en.gw g1) Q fun y F2 H2 g2 r2 => k y F2 H2 (g1.trans g2) r2⟩
theorem ev_not {a : Bool} (h1 : Ev ta ρ (.bool a)) : Ev (tNotV ta) ρ (.bool (!a)) := fun B F H σ en Q k =>
  h1 B F H σ en _ fun x F1 H1 g1 r1 => ⟨a, r1, k _ F1 H1 g1 rfl⟩
theorem et_val {b : Bool} (h : Ev te ρ (.bool b)) : EvT (tB te) ρ b := fun B F H σ en Q k => h B F H σ en _ fun x F1 H1 g1 r1 => ⟨b, r1, k F1 H1 g1⟩
theorem et_test {b : Bool} (h : Ev te ρ (.bool b)) : EvT (tTest te) ρ b := fun B F H σ en Q k => h B F H σ en _ fun x F1 H1 g1 r1 => ⟨b, r1, k F1 H1 g1⟩
theorem et_and {t u : TT} {a b : Bool} (h1 : EvT t ρ a) (h2 : a = true → EvT u ρ b) : EvT (tAnd t u) ρ (a && b) := fun B F H σ en Q k => h1 B F H σ en _ fun F1 H1 g1 => by
  cases a with
  | true =>
    rw [if_pos rfl]
    exact h2 rfl B F1 H1 σ (en.gw g1) Q fun F2 H2 g2 => k F2 H2 (g1.trans g2)
  | false =>
    rw [if_neg Bool.false_ne_true]
    exact k F1 H1 g1
theorem et_or {t u : TT} {a b : Bool} (h1 : EvT t ρ a) (h2 : a = false → EvT u ρ b) : EvT (tOr t u) ρ (a || b) := fun B F H σ en Q k => h1 B F H σ en _ fun F1 H1 g1 => by
  cases a with
  | true =>
    rw [if_pos rfl]
    exact k F1 H1 g1
  | false =>
    rw [if_neg Bool.false_ne_true]
    exact h2 rfl B F1 H1 σ (en.gw g1) Q fun F2 H2 g2 => k F2 H2 (g1.trans g2)
theorem et_not {t : TT} {a : Bool} (h1 : EvT t ρ a) : EvT (tNot t) ρ (!a) := fun B F H σ en Q k => h1 B F H σ en _ fun F1 H1 g1 => k F1 H1 g1
/-- a < b < c -/
theorem ev_chain {r r' : R2} {b c : Bool} (ha : Ev ta ρ d) (hb : Ev tb ρ e) (hr : RvD r d e (.bool b)) (hc : b = true → Ev tc ρ f) (hr' : b = true → RvD r' e f (.bool c)) : Ev (tChain r r' ta tb tc) ρ (.bool (b && c)) := fun B F H σ en Q k =>
  ha B F H σ en _ fun x F1 H1 g1 r1 => hb B F1 H1 σ (en.gw g1) _ fun y F2 H2 g2 r2 => hr F2 H2 x y _ g2.h (r1.gw g2) r2 fun z F3 H3 g3 r3 => ⟨b, r3, by
    have g := (g1.trans g2).trans g3
    cases b with
    | true =>
      rw [if_pos rfl]
      exact hc rfl B F3 H3 σ (en.gw g) _ fun w F4 H4 g4 r4 => hr' rfl F4 H4 y w Q g4.h ((r2.gw g3).gw g4) r4 fun v F5 H5 g5 r5 => k v F5 H5 ((g.trans g4).trans g5) r5
    | false =>
      rw [if_neg Bool.false_ne_true]
      exact k _ F3 H3 g rfl⟩
theorem ea_nil : EvA tNil ρ [] := fun B F H σ en Q k => k [] F H (Gw.refl en.fh) rfl
theorem ea_cons {tr : TA} {ds : List D} (h : Ev ta ρ d) (hr : EvA tr ρ ds) : EvA (tCons ta tr) ρ (d :: ds) := fun B F H σ en Q k =>
  h B F H σ en _ fun v F1 H1 g1 r1 => hr B F1 H1 σ (en.gw g1) _ fun vs F2 H2 g2 r2 => k (v :: vs) F2 H2 (g1.trans g2) ⟨v, vs, rfl, r1.gw g2, r2⟩
theorem eap_nil : EvAP tNil ρ (· = []) := fun B F H σ en Q k => k [] [] F H rfl (Gw.refl en.fh) rfl
theorem eap_cons {tr : TA} {P : D → Prop} {R : List D → Prop} (h : EvP ta ρ P) (hr : EvAP tr ρ R) : EvAP (tCons ta tr) ρ (fun l => ∃ d ds, l = d :: ds ∧ P d ∧ R ds) := fun B F H σ en Q k =>
  h B F H σ en _ fun d v F1 H1 p1 g1 r1 => hr B F1 H1 σ (en.gw g1) _ fun ds vs F2 H2 p2 g2 r2 => k (d :: ds) (v :: vs) F2 H2 ⟨d, ds, rfl, p1, p2⟩ (g1.trans g2) ⟨v, vs, rfl, r1.gw g2, r2⟩
theorem Rps.len : ∀ {F : FS} {H : Hp} {ds : List D} {vs : List V}, Rps F H ds vs → vs.length = ds.length
  | _, _, [], vs, h => by
    have h : vs = [] := h
    rw [h]
    rfl
  | _, _, d :: ds, vs, h => by
    obtain ⟨v, ws, rfl, _, q⟩ := h
    rw [List.length_cons, List.length_cons, q.len]
theorem big_ok {n : Nat} (h : n ≤ 10000) : n ≤ sizeLine := Nat.le_trans h (by decide)
theorem big_lt {n : Nat} (h : n < 10000) : n < sizeLine := Nat.lt_of_lt_of_le h (by decide)
theorem rp_newT {F : FS} {H : Hp} {p : Addr} {ds : List D} {vs : List V} (hF : ∀ a, F a → H a ≠ none) (hp : H p = none) (r : Rps F H ds vs) : Rp (addF F p) (upd H p (.tup vs)) (.tuple ds) (.ref p) :=
  ⟨p, vs, rfl, .inr rfl, upd_same, r.gw (Gw.new hF hp)⟩
theorem ev_tup {ta : TA} {ds : List D} (h : EvA ta ρ ds) (hl : ds.length ≤ 10000) : Ev (tTup ta) ρ (.tuple ds) := fun B F H σ en Q k =>
  h B F H σ en _ fun vs F1 H1 g1 r1 => ⟨big_ok (by rw [r1.len]; exact hl), fun p hp => k _ (addF F1 p) _ (g1.trans (Gw.new g1.h hp)) (rp_newT g1.h hp r1)⟩
theorem evp_tup {ta : TA} {P : List D → Prop} (h : EvAP ta ρ P) (hl : ∀ ds, P ds → ds.length ≤ 10000) : EvP (tTup ta) ρ (fun d => ∃ ds, d = .tuple ds ∧ P ds) := fun B F H σ en Q k =>
  h B F H σ en _ fun ds vs F1 H1 p1 g1 r1 => ⟨big_ok (by rw [r1.len]; exact hl ds p1), fun p hp => k _ _ (addF F1 p) _ ⟨ds, rfl, p1⟩ (g1.trans (Gw.new g1.h hp)) (rp_newT g1.h hp r1)⟩
theorem gw_upd {F : FS} {H : Hp} {p : Addr} {o : HO} (hF : ∀ a, F a → H a ≠ none) (hp : H p = none) : Gw F H F (upd H p o) :=
  ⟨fun _ h => h, same_new hp, fun _ h => .inl h, fun a h => by
    have c : a ≠ p := fun c => hF a h (by rw [c]; exact hp)
    rw [upd_ne c]
    exact hF a h⟩
theorem en_lst {ta : TA} {ds : List D} (h : EvA ta ρ ds) (hl : ds.length ≤ 10000) : EvN (tLst ta) ρ (.list ds) := fun B F H σ en Q k =>
  h B F H σ en _ fun vs F1 H1 g1 r1 => ⟨big_ok (by rw [r1.len]; exact hl), fun p hp => k p F1 _ (g1.s.free hp) (g1.trans (gw_upd g1.h hp)) (fun f => g1.h p f hp) ⟨vs, upd_same, r1.gw (gw_upd g1.h hp)⟩⟩
theorem en_dictK : EvN tDNewK ρ (.dict []) := fun B F H σ en Q k => fun p hp => k p F _ hp (gw_upd en.fh hp) (fun f => en.fh p f hp) ⟨[], upd_same, rfl⟩
theorem en_dictT : EvN tDNewT ρ (.dictT []) := fun B F H σ en Q k => fun p hp => k p F _ hp (gw_upd en.fh hp) (fun f => en.fh p f hp) ⟨[], upd_same, rfl⟩
end
end Tk

set_option Elab.async false
set_option linter.all false
set_option maxRecDepth 100000
set_option maxHeartbeats 1000000
/-! Tk2: the logic of data: subscripts, slices, dicts, containment, statements, loops, calls. -/
namespace Tk
open PySem PySem.Spec PyProof.Rows L2

section
variable {F : FS} {H : Hp}
theorem Rps.get : ∀ {ds : List D} {vs : List V} {i : Nat} {d : D}, Rps F H ds vs → ds[i]? = some d → ∃ v, vs[i]? = some v ∧ Rp F H d v
  | [], _, _, _, _, e => by simp at e
  | d :: ds, vs, 0, d', h, e => by
    obtain ⟨v, ws, rfl, p, q⟩ := h
    have e : d = d' := by simpa using e
    exact ⟨v, rfl, e ▸ p⟩
  | d :: ds, vs, i + 1, d', h, e => by
    obtain ⟨v, ws, rfl, p, q⟩ := h
    obtain ⟨v', a, b⟩ := Rps.get (i := i) q (by simpa using e)
    exact ⟨v', by simpa using a, b⟩
theorem Rps.of_get : ∀ {ds : List D} {vs : List V} {i : Nat} {v : V}, Rps F H ds vs → vs[i]? = some v → ∃ d, ds[i]? = some d ∧ Rp F H d v
  | [], vs, _, _, h, e => by
    have h : vs = [] := h
    rw [h] at e
    simp at e
  | d :: ds, vs, 0, d', h, e => by
    obtain ⟨v, ws, rfl, p, q⟩ := h
    have e : v = d' := by simpa using e
    exact ⟨d, rfl, e ▸ p⟩
  | d :: ds, vs, i + 1, d', h, e => by
    obtain ⟨v, ws, rfl, p, q⟩ := h
    obtain ⟨v', a, b⟩ := Rps.of_get (i := i) q (by simpa using e)
    exact ⟨v', by simpa using a, b⟩
theorem Rps.take : ∀ {ds : List D} {vs : List V} (n : Nat), Rps F H ds vs → Rps F H (ds.take n) (vs.take n)
  | _, _, 0, _ => by rw [List.take_zero, List.take_zero]; rfl
  | [], vs, n + 1, h => by
    have h : vs = [] := h
    rw [h]; rfl
  | d :: ds, vs, n + 1, h => by
    obtain ⟨v, ws, rfl, p, q⟩ := h
    exact ⟨v, ws.take n, rfl, p, q.take n⟩
theorem Rps.drop : ∀ {ds : List D} {vs : List V} (n : Nat), Rps F H ds vs → Rps F H (ds.drop n) (vs.drop n)
  | _, _, 0, h => h
  | [], vs, n + 1, h => by
    have h : vs = [] := h
    rw [h]; rfl
  | d :: ds, vs, n + 1, h => by
    obtain ⟨v, ws, rfl, p, q⟩ := h
    exact q.drop n
theorem Rps.append : ∀ {ds es : List D} {vs ws : List V}, Rps F H ds vs → Rps F H es ws → Rps F H (ds ++ es) (vs ++ ws)
  | [], es, vs, ws, h, k => by
    have h : vs = [] := h
    rw [h]; exact k
  | d :: ds, es, vs, ws, h, k => by
    obtain ⟨v, us, rfl, p, q⟩ := h
    exact ⟨v, us ++ ws, rfl, p, q.append k⟩
theorem Rps.one {d : D} {v : V} (h : Rp F H d v) : Rps F H [d] [v] := ⟨v, [], rfl, h, rfl⟩
theorem Rps.ints : ∀ {ns : List Int} {vs : List V}, Rps F H (ns.map D.int) vs → vs = ns.map V.int
  | [], vs, h => h
  | n :: ns, vs, h => by
    obtain ⟨v, ws, rfl, p, q⟩ := h
    have p : v = .int n := p
    rw [p, q.ints]; rfl
theorem Rps.of_ints : ∀ (ns : List Int), Rps F H (ns.map D.int) (ns.map V.int)
  | [] => rfl
  | n :: ns => ⟨_, _, rfl, rfl, Rps.of_ints ns⟩
theorem Rps.strs : ∀ {ns : List Str} {vs : List V}, Rps F H (ns.map D.str) vs → vs = ns.map V.str
  | [], vs, h => h
  | n :: ns, vs, h => by
    obtain ⟨v, ws, rfl, p, q⟩ := h
    have p : v = .str n := p
    rw [p, q.strs]; rfl
theorem Rps.of_strs : ∀ (ns : List Str), Rps F H (ns.map D.str) (ns.map V.str)
  | [] => rfl
  | n :: ns => ⟨_, _, rfl, rfl, Rps.of_strs ns⟩
def cutD (xs : List D) (lo hi : Option Int) : List D := (xs.drop (HT.sIx xs.length 0 lo)).take (HT.sIx xs.length xs.length hi - HT.sIx xs.length 0 lo)
theorem Rps.cut {ds : List D} {vs : List V} (h : Rps F H ds vs) (lo hi : Option Int) : Rps F H (cutD ds lo hi) (cutV vs lo hi) := by
  unfold cutD cutV
  rw [h.len]
  exact (h.drop _).take _
theorem atI_len {α β : Type} {xs : List α} {ys : List β} (h : xs.length = ys.length) {i : Int} {d : β} (e : atI ys i = some d) : ∃ j, ixN xs.length i = some j ∧ ys[j]? = some d := by
  unfold atI at e
  obtain ⟨j, a, b⟩ := Option.bind_eq_some_iff.mp e
  exact ⟨j, by rw [h]; exact a, b⟩
theorem Rps.at {ds : List D} {vs : List V} {i : Int} {d : D} (h : Rps F H ds vs) (e : atI ds i = some d) : ∃ v, atI vs i = some v ∧ Rp F H d v := by
  obtain ⟨j, a, b⟩ := atI_len h.len e
  obtain ⟨v, c, r⟩ := h.get b
  refine ⟨v, ?_, r⟩
  unfold atI
  rw [a]
  exact c
end

/-! ### dicts by their data -/
section
variable {κ : Type} [DecidableEq κ]
def getD' (kds : List (κ × D)) (k : κ) : Option D := (kds.find? fun kv => decide (kv.1 = k)).map (·.2)
def putD (kds : List (κ × D)) (k : κ) (d : D) : List (κ × D) :=
  if (kds.any fun kv => decide (kv.1 = k)) = true then kds.map (fun kv => if kv.1 = k then (kv.1, d) else kv) else kds ++ [(k, d)]
/-- the same keys, the data of the values -/
def PK (F : FS) (H : Hp) : List (κ × D) → List (κ × V) → Prop
  | [], kvs => kvs = []
  | (k, d) :: r, kvs => ∃ v ws, kvs = (k, v) :: ws ∧ Rp F H d v ∧ PK F H r ws
theorem PK.get {F : FS} {H : Hp} {k : κ} : ∀ {kds : List (κ × D)} {kvs : List (κ × V)}, PK F H kds kvs → (getD' kds k = none ∧ valV kvs k = none) ∨ ∃ d v, getD' kds k = some d ∧ valV kvs k = some v ∧ Rp F H d v
  | [], kvs, h => by
    have h : kvs = [] := h
    rw [h]
    exact .inl ⟨rfl, rfl⟩
  | (k', d) :: r, kvs, h => by
    obtain ⟨v, ws, rfl, p, q⟩ := h
    by_cases c : k' = k
    · refine .inr ⟨d, v, ?_, valV_pos c, p⟩
      simp [getD', List.find?_cons, c]
    · have e1 : getD' ((k', d) :: r) k = getD' r k := by simp [getD', List.find?_cons, c]
      rw [e1, valV_neg (p := (k', v)) c]
      exact q.get
theorem PK.any {F : FS} {H : Hp} {k : κ} {kds : List (κ × D)} {kvs : List (κ × V)} (h : PK F H kds kvs) : (kds.any fun kv => decide (kv.1 = k)) = (kvs.any fun kv => decide (kv.1 = k)) := by
  induction kds generalizing kvs with
  | nil =>
    have h : kvs = [] := h
    rw [h]; rfl
  | cons p r ih =>
    obtain ⟨v, ws, rfl, _, q⟩ := h
    rw [List.any_cons, List.any_cons, ih q]
theorem PK.len {F : FS} {H : Hp} : ∀ {kds : List (κ × D)} {kvs : List (κ × V)}, PK F H kds kvs → kvs.length = kds.length
  | [], kvs, h => by
    have h : kvs = [] := h
    rw [h]; rfl
  | _ :: r, kvs, h => by
    obtain ⟨v, ws, rfl, p, q⟩ := h
    rw [List.length_cons, List.length_cons, q.len]
theorem PK.app {F : FS} {H : Hp} : ∀ {kds : List (κ × D)} {kvs : List (κ × V)} {k : κ} {d : D} {v : V}, PK F H kds kvs → Rp F H d v → PK F H (kds ++ [(k, d)]) (kvs ++ [(k, v)])
  | [], kvs, k, d, v, h, p => by
    have h : kvs = [] := h
    rw [h]
    exact ⟨v, [], rfl, p, rfl⟩
  | _ :: r, kvs, k, d, v, h, p => by
    obtain ⟨v', ws, rfl, p', q⟩ := h
    exact ⟨v', _, rfl, p', q.app p⟩
theorem PK.rep {F : FS} {H : Hp} : ∀ {kds : List (κ × D)} {kvs : List (κ × V)} {k : κ} {d : D} {v : V}, PK F H kds kvs → Rp F H d v →
    PK F H (kds.map fun kv => if kv.1 = k then (kv.1, d) else kv) (kvs.map fun kv => if kv.1 = k then (kv.1, v) else kv)
  | [], kvs, k, d, v, h, p => by
    have h : kvs = [] := h
    rw [h]
    rfl
  | (k', d') :: r, kvs, k, d, v, h, p => by
    obtain ⟨v', ws, rfl, p', q⟩ := h
    rw [List.map_cons, List.map_cons]
    by_cases c : k' = k
    · rw [if_pos c, if_pos c]
      exact ⟨v, _, rfl, p, q.rep p⟩
    · rw [if_neg c, if_neg c]
      exact ⟨v', _, rfl, p', q.rep p⟩
theorem PK.put {F : FS} {H : Hp} {kds : List (κ × D)} {kvs : List (κ × V)} {k : κ} {d : D} {v : V} (h : PK F H kds kvs) (p : Rp F H d v) : PK F H (putD kds k d) (putK kvs k v) := by
  unfold putD putK
  rw [h.any]
  by_cases c : (kvs.any fun kv => decide (kv.1 = k)) = true
  · rw [if_pos c, if_pos c]
    exact h.rep p
  · rw [if_neg c, if_neg c]
    exact h.app p
theorem putD_len (kds : List (κ × D)) (k : κ) (d : D) : (putD kds k d).length ≤ kds.length + 1 := by
  unfold putD
  split
  · rw [List.length_map]; omega
  · rw [List.length_append]; exact Nat.le_refl _
end
theorem pk_of {F : FS} {H : Hp} : ∀ {kds : List (Key × D)} {kvs : List (Key × V)}, RpK F H kds kvs → PK F H kds kvs
  | [], _, h => h
  | (_, _) :: _, _, h => by
    obtain ⟨v, ws, a, b, c⟩ := h
    exact ⟨v, ws, a, b, pk_of c⟩
theorem rpk_of {F : FS} {H : Hp} : ∀ {kds : List (Key × D)} {kvs : List (Key × V)}, PK F H kds kvs → RpK F H kds kvs
  | [], _, h => h
  | (_, _) :: _, _, h => by
    obtain ⟨v, ws, a, b, c⟩ := h
    exact ⟨v, ws, a, b, rpk_of c⟩
theorem pt_of {F : FS} {H : Hp} : ∀ {kds : List (List Key × D)} {kvs : List (List Key × V)}, RpT F H kds kvs → PK F H kds kvs
  | [], _, h => h
  | (_, _) :: _, _, h => by
    obtain ⟨v, ws, a, b, c⟩ := h
    exact ⟨v, ws, a, b, pt_of c⟩
theorem rpt_of {F : FS} {H : Hp} : ∀ {kds : List (List Key × D)} {kvs : List (List Key × V)}, PK F H kds kvs → RpT F H kds kvs
  | [], _, h => h
  | (_, _) :: _, _, h => by
    obtain ⟨v, ws, a, b, c⟩ := h
    exact ⟨v, ws, a, b, rpt_of c⟩

section
variable {ρ : Ro} {ta tb tc te td ty tx tl th : TE} {d e f : D} {K : PySem.W.Frag}
/-! ### items and slices -/
theorem rv_ixL {ds : List D} {i : Int} (h : atI ds i = some f) : RvD (rIxL K) (.list ds) (.int i) f := fun F H x y Q hF hx hy k => by
  obtain ⟨a, xs, rfl, fa, ha, r⟩ := hx
  obtain ⟨v, hv, rv⟩ := r.at h
  exact ⟨a, xs, i, v, rfl, hy, SqL.of ha, hv, k v F H (Gw.refl hF) rv⟩
theorem rv_ixT {ds : List D} {i : Int} (h : atI ds i = some f) : RvD (rIxT K) (.tuple ds) (.int i) f := fun F H x y Q hF hx hy k => by
  obtain ⟨a, xs, rfl, fa, ha, r⟩ := hx
  obtain ⟨v, hv, rv⟩ := r.at h
  exact ⟨a, xs, i, v, rfl, hy, SqT.of ha, hv, k v F H (Gw.refl hF) rv⟩
theorem eo_none : EvO tNoPart ρ none := fun B F H σ en Q k => k F H (Gw.refl en.fh)
theorem eo_some {i : Int} (h : Ev te ρ (.int i)) : EvO (tPart te) ρ (some i) := fun B F H σ en Q k => h B F H σ en _ fun v F1 H1 g1 r1 => ⟨i, r1, k F1 H1 g1⟩
theorem en_slL {tl th : TO} {ds : List D} {lo hi : Option Int} (h : Ev te ρ (.list ds)) (hl : EvO tl ρ lo) (hh : EvO th ρ hi) : EvN (tSl (rSlL K) te tl th) ρ (.list (cutD ds lo hi)) := fun B F H σ en Q k =>
  h B F H σ en _ fun v F1 H1 g1 r1 => hl B F1 H1 σ (en.gw g1) _ fun F2 H2 g2 => hh B F2 H2 σ ((en.gw g1).gw g2) _ fun F3 H3 g3 => by
    obtain ⟨a, xs, rfl, fa, ha, r⟩ := (r1.gw g2).gw g3
    have g := (g1.trans g2).trans g3
    exact ⟨a, xs, rfl, SqL.of ha, fun p hp => k p F3 _ (g.s.free hp) (g.trans (gw_upd g3.h hp)) (fun f => g3.h p f hp) ⟨_, upd_same, (r.cut lo hi).gw (gw_upd g3.h hp)⟩⟩
theorem cutD_full {ds : List D} {lo hi : Option Int} (h : HT.sIx ds.length 0 lo = 0 ∧ HT.sIx ds.length ds.length hi = ds.length) : cutD ds lo hi = ds := by
  unfold cutD
  rw [h.1, h.2, List.drop_zero, Nat.sub_zero, List.take_length]
theorem ev_slA {tl th : TO} {ds : List D} {lo hi : Option Int} (h : Ev te ρ (.tuple ds)) (hl : EvO tl ρ lo) (hh : EvO th ρ hi) : Ev (tSl (rSlA K) te tl th) ρ (.tuple (cutD ds lo hi)) := fun B F H σ en Q k =>
  h B F H σ en _ fun v F1 H1 g1 r1 => hl B F1 H1 σ (en.gw g1) _ fun F2 H2 g2 => hh B F2 H2 σ ((en.gw g1).gw g2) _ fun F3 H3 g3 => by
    have r3 := (r1.gw g2).gw g3
    obtain ⟨a, xs, rfl, fa, ha, r⟩ := r3
    have g := (g1.trans g2).trans g3
    refine ⟨a, xs, rfl, SqT.of ha, fun c => ?_, fun c p hp => ?_⟩
    · rw [r.len] at c
      refine k _ F3 H3 g ?_
      rw [cutD_full c]
      exact ⟨a, xs, rfl, fa, ha, r⟩
    · exact k _ (addF F3 p) _ (g.trans (Gw.new g3.h hp)) (rp_newT g3.h hp (r.cut lo hi))
/-! ### lists and tuples joined -/
theorem en_cat {ds es : List D} (ha : Ev ta ρ (.list ds)) (hb : Ev tb ρ (.list es)) (hl : ds.length + es.length ≤ 10000) : EvN (tOp rCat ta tb) ρ (.list (ds ++ es)) := fun B F H σ en Q k =>
  ha B F H σ en _ fun x F1 H1 g1 r1 => hb B F1 H1 σ (en.gw g1) _ fun y F2 H2 g2 r2 => by
    obtain ⟨a, xs, rfl, fa, hxa, rx⟩ := r1.gw g2
    obtain ⟨b, ys, rfl, fb, hyb, ry⟩ := r2
    have g := g1.trans g2
    exact ⟨a, b, xs, ys, rfl, rfl, hxa, hyb, big_ok (by rw [rx.len, ry.len]; exact hl), fun p hp => k p F2 _ (g.s.free hp) (g.trans (gw_upd g2.h hp)) (fun f => g2.h p f hp) ⟨_, upd_same, (rx.append ry).gw (gw_upd g2.h hp)⟩⟩
theorem rv_catA {ds es : List D} (hl : ds.length + es.length ≤ 10000) : RvD (rCatA K) (.tuple ds) (.tuple es) (.tuple (ds ++ es)) := fun F H x y Q hF hx hy k => by
  have hx' := hx
  have hy' := hy
  obtain ⟨a, xs, rfl, fa, hxa, rx⟩ := hx
  obtain ⟨b, ys, rfl, fb, hyb, ry⟩ := hy
  refine ⟨a, b, xs, ys, rfl, rfl, SqT.of hxa, SqT.of hyb, big_ok (by rw [rx.len, ry.len]; exact hl), fun c => ?_, fun _ c => ?_, fun _ _ p hp => k _ (addF F p) _ (Gw.new hF hp) (rp_newT hF hp (rx.append ry))⟩
  · have e : ds = [] := List.length_eq_zero_iff.mp (by rw [← rx.len, c]; rfl)
    rw [e, List.nil_append] at k
    exact k _ F H (Gw.refl hF) hy'
  · have e : es = [] := List.length_eq_zero_iff.mp (by rw [← ry.len, c]; rfl)
    rw [e, List.append_nil] at k
    exact k _ F H (Gw.refl hF) hx'
/-! ### in -/
theorem inV_ints (i : Int) (ns : List Int) : inV (.int i) (ns.map V.int) = decide (i ∈ ns) := by
  unfold inV
  rw [List.any_map]
  induction ns with
  | nil => rfl
  | cons n ns ih =>
    rw [List.any_cons, ih]
    have e : ((fun y => eqV y (V.int i)) ∘ V.int) n = (n == i) := rfl
    rw [e]
    by_cases c : n = i
    · simp [c]
    · have c' : ¬ i = n := fun z => c z.symm
      simp [c, c']
theorem inV_strs (i : Str) (ns : List Str) : inV (.str i) (ns.map V.str) = decide (i ∈ ns) := by
  unfold inV
  rw [List.any_map]
  induction ns with
  | nil => rfl
  | cons n ns ih =>
    rw [List.any_cons, ih]
    have e : ((fun y => eqV y (V.str i)) ∘ V.str) n = (n == i) := rfl
    rw [e]
    by_cases c : n = i
    · simp [c]
    · have c' : ¬ i = n := fun z => c z.symm
      simp [c, c']
theorem flat_ints (ns : List Int) : (ns.map V.int).all flatV = true := by
  rw [List.all_map, List.all_eq_true]
  intro _ _
  rfl
theorem flat_strs (ns : List Str) : (ns.map V.str).all flatV = true := by
  rw [List.all_map, List.all_eq_true]
  intro _ _
  rfl
theorem rv_inL {i : Int} {ns : List Int} : RvD (rIn K false) (.int i) (.list (ns.map D.int)) (.bool (decide (i ∈ ns))) := fun F H x y Q hF hx hy k => by
  obtain ⟨a, xs, rfl, fa, ha, r⟩ := hy
  have hx : x = .int i := hx
  have e := r.ints
  subst e hx
  refine ⟨a, _, rfl, .inl (SqL.of ha), rfl, flat_ints ns, ?_⟩
  rw [if_neg Bool.false_ne_true, inV_ints]
  exact k _ F H (Gw.refl hF) rfl
theorem rv_niL {i : Int} {ns : List Int} : RvD (rIn K true) (.int i) (.list (ns.map D.int)) (.bool (!decide (i ∈ ns))) := fun F H x y Q hF hx hy k => by
  obtain ⟨a, xs, rfl, fa, ha, r⟩ := hy
  have hx : x = .int i := hx
  have e := r.ints
  subst e hx
  refine ⟨a, _, rfl, .inl (SqL.of ha), rfl, flat_ints ns, ?_⟩
  rw [if_pos rfl, inV_ints]
  exact k _ F H (Gw.refl hF) rfl
theorem rv_niLS {i : Str} {ns : List Str} : RvD (rIn K true) (.str i) (.list (ns.map D.str)) (.bool (!decide (i ∈ ns))) := fun F H x y Q hF hx hy k => by
  obtain ⟨a, xs, rfl, fa, ha, r⟩ := hy
  have hx : x = .str i := hx
  have e := r.strs
  subst e hx
  refine ⟨a, _, rfl, .inl (SqL.of ha), rfl, flat_strs ns, ?_⟩
  rw [if_pos rfl, inV_strs]
  exact k _ F H (Gw.refl hF) rfl
theorem rv_niT {i : Str} (ns : List Str) {ds : List D} (hd : ds = ns.map D.str) : RvD (rIn K true) (.str i) (.tuple ds) (.bool (!decide (i ∈ ns))) := fun F H x y Q hF hx hy k => by
  subst hd
  obtain ⟨a, xs, rfl, fa, ha, r⟩ := hy
  have hx : x = .str i := hx
  have e := r.strs
  subst e hx
  refine ⟨a, _, rfl, .inr (SqT.of ha), rfl, flat_strs ns, ?_⟩
  rw [if_pos rfl, inV_strs]
  exact k _ F H (Gw.refl hF) rfl

/-! ### dicts -/
theorem ev_dget {kds : List (Key × D)} {k : Key} (hk : d = match k with | .inl i => D.int i | .inr s => D.str s) (hd : Ev td ρ (.dict kds)) (hy : Ev ty ρ d) (h : getD' kds k = some f) : Ev (tDGet td ty) ρ f := fun B F H σ en Q kk =>
  hd B F H σ en _ fun x F1 H1 g1 r1 => hy B F1 H1 σ (en.gw g1) _ fun y F2 H2 g2 r2 => by
    obtain ⟨a, kvs, rfl, fa, ha, r⟩ := r1.gw g2
    rcases (pk_of r).get (k := k) with ⟨c, _⟩ | ⟨d', v, c1, c2, rv⟩
    · rw [h] at c
      cases c
    · rw [h] at c1
      cases c1
      have ey : y = kV k := by
        subst hk
        cases k with
        | inl i => exact r2
        | inr s => exact r2
      refine ⟨a, v, rfl, .inl ⟨kvs, k, .inl ha, ey, c2.symm⟩, kk v F2 H2 (g1.trans g2) rv⟩
theorem ev_dgetS {kds : List (Key × D)} {n : Str} (hd : Ev td ρ (.dict kds)) (hy : Ev ty ρ (.str n)) (h : getD' kds (.inr n) = some f) : Ev (tDGet td ty) ρ f := ev_dget (k := .inr n) rfl hd hy h
theorem ev_dgetI {kds : List (Key × D)} {n : Int} (hd : Ev td ρ (.dict kds)) (hy : Ev ty ρ (.int n)) (h : getD' kds (.inl n) = some f) : Ev (tDGet td ty) ρ f := ev_dget (k := .inl n) rfl hd hy h
/-- of a dict that a loop walks -/
theorem ev_dgetL {i : Nat} {a : Addr} {kds : List (Key × D)} {n : Str} (hd : ρ[i]? = some (Ent.lk a kds)) (hy : Ev ty ρ (.str n)) (h : getD' kds (.inr n) = some f) : Ev (tDGet (tVar i) ty) ρ f := fun B F H σ en Q kk => by
  obtain ⟨o, kvs, hσ, ha, r⟩ := en.lk i a kds hd
  refine ⟨.ref a, hσ, ?_⟩
  refine hy B F H σ en _ fun y F2 H2 g2 r2 => ?_
  rcases (pk_of (RpK.mo g2.mo _ _ r)).get (k := .inr n) with ⟨c, _⟩ | ⟨d', v, c1, c2, rv⟩
  · rw [h] at c
    cases c
  · rw [h] at c1
    cases c1
    exact ⟨a, v, rfl, .inl ⟨kvs, .inr n, .inr ⟨o, g2.s _ _ ha⟩, r2, c2.symm⟩, kk v F2 H2 g2 rv⟩
/-- a key that is a text and a number -/
def key2 (n : Str) (w : Int) : List Key := [.inr n, .inl w]
theorem key_tup {F : FS} {H : Hp} {n : Str} {w : Int} {v : V} (h : Rp F H (.tuple [.str n, .int w]) v) : ∃ b, v = .ref b ∧ H b = some (.tup ((key2 n w).map kV)) := by
  obtain ⟨a, xs, rfl, fa, ha, r⟩ := h
  obtain ⟨v1, ws, rfl, p1, r⟩ := r
  obtain ⟨v2, ws, rfl, p2, r⟩ := r
  have p1 : v1 = .str n := p1
  have p2 : v2 = .int w := p2
  have r : ws = [] := r
  subst p1 p2 r
  exact ⟨a, rfl, ha⟩
theorem ev_dgetT {kds : List (List Key × D)} {n : Str} {w : Int} (hd : Ev td ρ (.dictT kds)) (hy : Ev ty ρ (.tuple [.str n, .int w])) (h : getD' kds (key2 n w) = some f) : Ev (tDGet td ty) ρ f := fun B F H σ en Q kk =>
  hd B F H σ en _ fun x F1 H1 g1 r1 => hy B F1 H1 σ (en.gw g1) _ fun y F2 H2 g2 r2 => by
    obtain ⟨a, kvs, rfl, fa, ha, r⟩ := r1.gw g2
    obtain ⟨b, rfl, hb⟩ := key_tup r2
    rcases (pt_of r).get (k := key2 n w) with ⟨c, _⟩ | ⟨d', v, c1, c2, rv⟩
    · rw [h] at c
      cases c
    · rw [h] at c1
      cases c1
      exact ⟨a, v, rfl, .inr ⟨kvs, key2 n w, b, .inl ha, rfl, hb, c2.symm⟩, kk v F2 H2 (g1.trans g2) rv⟩
theorem ev_dinT {kds : List (List Key × D)} {n : Str} {w : Int} (hd : Ev td ρ (.dictT kds)) (hy : Ev ty ρ (.tuple [.str n, .int w])) : Ev (tDIn ty td) ρ (.bool (getD' kds (key2 n w)).isSome) := fun B F H σ en Q kk =>
  hy B F H σ en _ fun y F1 H1 g1 r1 => hd B F1 H1 σ (en.gw g1) _ fun x F2 H2 g2 r2 => by
    obtain ⟨a, kvs, rfl, fa, ha, r⟩ := r2
    obtain ⟨b, rfl, hb⟩ := key_tup (r1.gw g2)
    rcases (pt_of r).get (k := key2 n w) with ⟨c1, c2⟩ | ⟨d', v, c1, c2, rv⟩
    · rw [c1] at kk
      exact ⟨a, none, rfl, .inr ⟨kvs, key2 n w, b, .inl ha, rfl, hb, c2.symm⟩, kk _ F2 H2 (g1.trans g2) rfl⟩
    · rw [c1] at kk
      exact ⟨a, some v, rfl, .inr ⟨kvs, key2 n w, b, .inl ha, rfl, hb, c2.symm⟩, kk _ F2 H2 (g1.trans g2) rfl⟩
theorem ev_dinS {kds : List (Key × D)} {n : Str} (hd : Ev td ρ (.dict kds)) (hy : Ev ty ρ (.str n)) : Ev (tDIn ty td) ρ (.bool (getD' kds (.inr n)).isSome) := fun B F H σ en Q kk =>
  hy B F H σ en _ fun y F1 H1 g1 r1 => hd B F1 H1 σ (en.gw g1) _ fun x F2 H2 g2 r2 => by
    obtain ⟨a, kvs, rfl, fa, ha, r⟩ := r2
    rcases (pk_of r).get (k := .inr n) with ⟨c1, c2⟩ | ⟨d', v, c1, c2, rv⟩
    · rw [c1] at kk
      exact ⟨a, none, rfl, .inl ⟨kvs, .inr n, .inl ha, r1, c2.symm⟩, kk _ F2 H2 (g1.trans g2) rfl⟩
    · rw [c1] at kk
      exact ⟨a, some v, rfl, .inl ⟨kvs, .inr n, .inl ha, r1, c2.symm⟩, kk _ F2 H2 (g1.trans g2) rfl⟩
theorem ev_dniS {kds : List (Key × D)} {n : Str} (hd : Ev td ρ (.dict kds)) (hy : Ev ty ρ (.str n)) : Ev (tDNotIn ty td) ρ (.bool (!(getD' kds (.inr n)).isSome)) := fun B F H σ en Q kk =>
  hy B F H σ en _ fun y F1 H1 g1 r1 => hd B F1 H1 σ (en.gw g1) _ fun x F2 H2 g2 r2 => by
    obtain ⟨a, kvs, rfl, fa, ha, r⟩ := r2
    rcases (pk_of r).get (k := .inr n) with ⟨c1, c2⟩ | ⟨d', v, c1, c2, rv⟩
    · rw [c1] at kk
      exact ⟨a, none, rfl, .inl ⟨kvs, .inr n, .inl ha, r1, c2.symm⟩, kk _ F2 H2 (g1.trans g2) rfl⟩
    · rw [c1] at kk
      exact ⟨a, some v, rfl, .inl ⟨kvs, .inr n, .inl ha, r1, c2.symm⟩, kk _ F2 H2 (g1.trans g2) rfl⟩
/-- d.get(n, x) -/
theorem ev_dget2S {kds : List (Key × D)} {n : Str} (hd : Ev td ρ (.dict kds)) (hy : Ev ty ρ (.str n)) (hx : Ev tx ρ e) : Ev (tDGet2 td ty tx) ρ ((getD' kds (.inr n)).getD e) := fun B F H σ en Q kk =>
  hd B F H σ en _ fun x F1 H1 g1 r1 => by
    obtain ⟨a, kvs, rfl, fa, ha, r⟩ := r1
    refine ⟨a, rfl, .inl ⟨kvs, .inl ha⟩, ?_⟩
    refine hy B F1 H1 σ (en.gw g1) _ fun y F2 H2 g2 r2 => hx B F2 H2 σ ((en.gw g1).gw g2) _ fun z F3 H3 g3 r3 => ?_
    have g := (g1.trans g2).trans g3
    have ha3 := g3.s _ _ (g2.s _ _ ha)
    have r' := RpK.mo g3.mo _ _ (RpK.mo g2.mo _ _ r)
    rcases (pk_of r').get (k := .inr n) with ⟨c1, c2⟩ | ⟨d', v, c1, c2, rv⟩
    · rw [c1] at kk
      exact ⟨none, .inl ⟨kvs, .inr n, .inl ha3, r2, c2.symm⟩, kk _ F3 H3 g r3⟩
    · rw [c1] at kk
      exact ⟨some v, .inl ⟨kvs, .inr n, .inl ha3, r2, c2.symm⟩, kk _ F3 H3 g rv⟩
theorem ev_dget2T {kds : List (List Key × D)} {n : Str} {w : Int} (hd : Ev td ρ (.dictT kds)) (hy : Ev ty ρ (.tuple [.str n, .int w])) (hx : Ev tx ρ e) : Ev (tDGet2 td ty tx) ρ ((getD' kds (key2 n w)).getD e) := fun B F H σ en Q kk =>
  hd B F H σ en _ fun x F1 H1 g1 r1 => by
    obtain ⟨a, kvs, rfl, fa, ha, r⟩ := r1
    refine ⟨a, rfl, .inr ⟨kvs, .inl ha⟩, ?_⟩
    refine hy B F1 H1 σ (en.gw g1) _ fun y F2 H2 g2 r2 => hx B F2 H2 σ ((en.gw g1).gw g2) _ fun z F3 H3 g3 r3 => ?_
    have g := (g1.trans g2).trans g3
    have ha3 := g3.s _ _ (g2.s _ _ ha)
    obtain ⟨b, rfl, hb⟩ := key_tup r2
    have hb3 := g3.s _ _ hb
    have r' := RpT.mo g3.mo _ _ (RpT.mo g2.mo _ _ r)
    rcases (pt_of r').get (k := key2 n w) with ⟨c1, c2⟩ | ⟨d', v, c1, c2, rv⟩
    · rw [c1] at kk
      exact ⟨none, .inr ⟨kvs, key2 n w, b, .inl ha3, rfl, hb3, c2.symm⟩, kk _ F3 H3 g r3⟩
    · rw [c1] at kk
      exact ⟨some v, .inr ⟨kvs, key2 n w, b, .inl ha3, rfl, hb3, c2.symm⟩, kk _ F3 H3 g rv⟩
end
end Tk

set_option Elab.async false
set_option linter.all false
set_option maxRecDepth 100000
set_option maxHeartbeats 1000000
/-! Tk3: the logic of data: environments changed, targets, statements, walks, loops, comprehensions, calls. -/
namespace Tk
open PySem PySem.Spec PyProof.Rows L2

/-- F's objects stand as they were -/
structure Fr (F : FS) (H : Hp) (F' : FS) (H' : Hp) : Prop where
  f : ∀ a, F a → F' a
  e : ∀ a, F a → H' a = H a
theorem Fr.refl {F : FS} {H : Hp} : Fr F H F H := ⟨fun _ h => h, fun _ _ => rfl⟩
theorem Fr.trans {F : FS} {H : Hp} {F1 : FS} {H1 : Hp} {F2 : FS} {H2 : Hp} (g : Fr F H F1 H1) (k : Fr F1 H1 F2 H2) : Fr F H F2 H2 :=
  ⟨fun a h => k.f a (g.f a h), fun a h => (k.e a (g.f a h)).trans (g.e a h)⟩
theorem Gw.fr {F : FS} {H : Hp} {F' : FS} {H' : Hp} (g : Gw F H F' H') (hF : ∀ a, F a → H a ≠ none) : Fr F H F' H' := ⟨g.f, fun a h => by
  cases c : H a with
  | none => exact absurd c (hF a h)
  | some o => exact g.s _ _ c⟩
theorem Fr.mo {F : FS} {H : Hp} {F' : FS} {H' : Hp} (g : Fr F H F' H') : Mo F H F' H' := ⟨g.f, fun a o f h => (g.e a f).trans h⟩

/-! ### the environment changed -/
section
variable {B : Bs} {F : FS} {H : Hp} {σ : L2.St} {ρ : Ro}
theorem get_set_self {α : Type} {l : List α} {i : Nat} {x y : α} (h : (l.set i x)[i]? = some y) : x = y ∧ i < l.length := by
  by_cases c : i < l.length
  · rw [List.getElem?_set_self c] at h
    exact ⟨Option.some.inj h, c⟩
  · rw [List.getElem?_eq_none (by rw [List.length_set]; omega)] at h
    cases h
theorem EnvR.set (e : EnvR B F H σ ρ) (i : Nat) {d : D} {v : V} (r : Rp F H d v) : EnvR B F H (σ.set i (some v)) (ρ.set i (Ent.im d)) where
  len := by rw [List.length_set, List.length_set, e.len]
  im := fun j d' h => by
    by_cases c : i = j
    · subst c
      obtain ⟨q, l⟩ := get_set_self h
      cases q
      exact ⟨v, List.getElem?_set_self (by rw [e.len]; exact l), r⟩
    · rw [List.getElem?_set_ne c] at h
      rw [List.getElem?_set_ne c]
      exact e.im j d' h
  mu := fun j d' h => by
    by_cases c : i = j
    · subst c
      exact nomatch (get_set_self h).1
    · rw [List.getElem?_set_ne c] at h
      rw [List.getElem?_set_ne c]
      exact e.mu j d' h
  dis := fun j k d1 d2 p h1 h2 h3 h4 => by
    by_cases c : i = j
    · subst c
      exact nomatch (get_set_self h1).1
    · by_cases c2 : i = k
      · subst c2
        exact nomatch (get_set_self h2).1
      · rw [List.getElem?_set_ne c] at h1 h3
        rw [List.getElem?_set_ne c2] at h2 h4
        exact e.dis j k d1 d2 p h1 h2 h3 h4
  lk := fun j a d' h => by
    by_cases c : i = j
    · subst c
      exact nomatch (get_set_self h).1
    · rw [List.getElem?_set_ne c] at h
      rw [List.getElem?_set_ne c]
      exact e.lk j a d' h
  pt := fun j a h => by
    by_cases c : i = j
    · subst c
      exact nomatch (get_set_self h).1
    · rw [List.getElem?_set_ne c] at h
      rw [List.getElem?_set_ne c]
      exact e.pt j a h
  fh := e.fh
  bf := e.bf
  bs := e.bs
  bn := e.bn
/-- a slot that holds a new object of one's own -/
theorem EnvR.setM (e : EnvR B F H σ ρ) (i : Nat) {d : D} {p : Addr} (nf : ¬ F p) (nb : B.H p = none) (m : MutC F H d p) (hn : ∀ (j : Nat) (d' : D), ρ[j]? = some (Ent.mu d') → σ[j]? = some (some (V.ref p)) → j = i) :
    EnvR B F H (σ.set i (some (.ref p))) (ρ.set i (Ent.mu d)) where
  len := by rw [List.length_set, List.length_set, e.len]
  im := fun j d' h => by
    by_cases c : i = j
    · subst c
      exact nomatch (get_set_self h).1
    · rw [List.getElem?_set_ne c] at h
      rw [List.getElem?_set_ne c]
      exact e.im j d' h
  mu := fun j d' h => by
    by_cases c : i = j
    · subst c
      obtain ⟨q, l⟩ := get_set_self h
      cases q
      exact ⟨p, List.getElem?_set_self (by rw [e.len]; exact l), nf, nb, m⟩
    · rw [List.getElem?_set_ne c] at h
      rw [List.getElem?_set_ne c]
      exact e.mu j d' h
  dis := fun j k d1 d2 q h1 h2 h3 h4 => by
    by_cases c : i = j
    · by_cases c2 : i = k
      · exact c.symm.trans c2
      · subst c
        obtain ⟨_, l⟩ := get_set_self h1
        rw [List.getElem?_set_self (by rw [e.len]; exact l)] at h3
        cases h3
        rw [List.getElem?_set_ne c2] at h2 h4
        exact (hn k d2 h2 h4).symm
    · rw [List.getElem?_set_ne c] at h1 h3
      by_cases c2 : i = k
      · subst c2
        obtain ⟨_, l⟩ := get_set_self h2
        rw [List.getElem?_set_self (by rw [e.len]; exact l)] at h4
        cases h4
        exact hn j d1 h1 h3
      · rw [List.getElem?_set_ne c2] at h2 h4
        exact e.dis j k d1 d2 q h1 h2 h3 h4
  lk := fun j a d' h => by
    by_cases c : i = j
    · subst c
      exact nomatch (get_set_self h).1
    · rw [List.getElem?_set_ne c] at h
      rw [List.getElem?_set_ne c]
      exact e.lk j a d' h
  pt := fun j a h => by
    by_cases c : i = j
    · subst c
      exact nomatch (get_set_self h).1
    · rw [List.getElem?_set_ne c] at h
      rw [List.getElem?_set_ne c]
      exact e.pt j a h
  fh := e.fh
  bf := e.bf
  bs := e.bs
  bn := e.bn
/-- an object of one's own is changed -/
theorem EnvR.write (e : EnvR B F H σ ρ) {i : Nat} {d d' : D} {p : Addr} {o : HO} (hi : ρ[i]? = some (Ent.mu d)) (hp : σ[i]? = some (some (V.ref p))) (m : MutC F (upd H p o) d' p) : EnvR B F (upd H p o) σ (ρ.set i (Ent.mu d')) := by
  obtain ⟨p', hp', nf, nb, m0⟩ := e.mu i d hi
  rw [hp] at hp'
  cases hp'
  have ne : ∀ a, F a → a ≠ p := fun a h c => nf (c ▸ h)
  have mo : Mo F H F (upd H p o) := ⟨fun _ h => h, fun a u f h => by rw [upd_ne (ne a f)]; exact h⟩
  refine ⟨by rw [List.length_set, e.len], fun j d1 h => ?_, fun j d1 h => ?_, fun j k d1 d2 q h1 h2 h3 h4 => ?_, fun j a kds h => ?_, fun j a h => ?_, fun a f => by rw [upd_ne (ne a f)]; exact e.fh a f, e.bf, fun a u h => ?_, e.bn⟩
  · by_cases c : i = j
    · subst c
      exact nomatch (get_set_self h).1
    · rw [List.getElem?_set_ne c] at h
      obtain ⟨v, a, r⟩ := e.im j d1 h
      exact ⟨v, a, Rp.mo mo _ _ r⟩
  · by_cases c : i = j
    · subst c
      obtain ⟨q, _⟩ := get_set_self h
      cases q
      exact ⟨p, hp, nf, nb, m⟩
    · rw [List.getElem?_set_ne c] at h
      obtain ⟨q, a, nf', nb', m'⟩ := e.mu j d1 h
      refine ⟨q, a, nf', nb', m'.at mo ?_⟩
      rw [upd_ne]
      intro z
      subst z
      exact c (e.dis i j d d1 _ hi h hp a)
  · by_cases c : i = j
    · by_cases c2 : i = k
      · exact c.symm.trans c2
      · subst c
        rw [List.getElem?_set_ne c2] at h2
        exact e.dis _ _ d d2 q hi h2 h3 h4
    · rw [List.getElem?_set_ne c] at h1
      by_cases c2 : i = k
      · subst c2
        exact e.dis _ _ d1 d q h1 hi h3 h4
      · rw [List.getElem?_set_ne c2] at h2
        exact e.dis _ _ d1 d2 q h1 h2 h3 h4
  · by_cases c : i = j
    · subst c
      exact nomatch (get_set_self h).1
    · rw [List.getElem?_set_ne c] at h
      obtain ⟨ob, kvs, x, y, z⟩ := e.lk j a kds h
      refine ⟨ob, kvs, x, ?_, RpK.mo mo _ _ z⟩
      rw [upd_ne]
      · exact y
      · intro w
        subst w
        cases d with
        | list ds => obtain ⟨xs, q, _⟩ := m0; rw [q] at y; cases y
        | dict ds => obtain ⟨xs, q, _⟩ := m0; rw [q] at y; cases y
        | dictT ds => obtain ⟨xs, q, _⟩ := m0; rw [q] at y; cases y
        | none => exact m0.elim
        | bool _ => exact m0.elim
        | int _ => exact m0.elim
        | str _ => exact m0.elim
        | tuple _ => exact m0.elim
  · by_cases c : i = j
    · subst c
      exact nomatch (get_set_self h).1
    · rw [List.getElem?_set_ne c] at h
      exact e.pt j a h
  · rw [upd_ne (fun z => by rw [z, nb] at h; cases h)]
    exact e.bs a u h
/-- what is one's own becomes a datum -/
theorem EnvR.freeze (e : EnvR B F H σ ρ) {i : Nat} {d : D} (hi : ρ[i]? = some (Ent.mu d)) : ∃ p, σ[i]? = some (some (V.ref p)) ∧ EnvR B (addF F p) H σ (ρ.set i (Ent.im d)) ∧ Fr F H (addF F p) H ∧ ¬ F p ∧ B.H p = none ∧ MutC F H d p := by
  obtain ⟨p, hp, nf, nb, m⟩ := e.mu i d hi
  refine ⟨p, hp, ⟨by rw [List.length_set, e.len], fun j d1 h => ?_, fun j d1 h => ?_, fun j k d1 d2 q h1 h2 h3 h4 => ?_, fun j a kds h => ?_, fun j a h => ?_, fun a f => ?_, fun a f => .inl (e.bf a f), e.bs, fun a f => ?_⟩, ⟨fun _ h => .inl h, fun _ _ => rfl⟩, nf, nb, m⟩
  · by_cases c : i = j
    · subst c
      obtain ⟨q, _⟩ := get_set_self h
      cases q
      exact ⟨_, hp, MutC.rp (.inr rfl) (m.at mo_add rfl)⟩
    · rw [List.getElem?_set_ne c] at h
      obtain ⟨v, a, r⟩ := e.im j d1 h
      exact ⟨v, a, Rp.mo mo_add _ _ r⟩
  · by_cases c : i = j
    · subst c
      exact nomatch (get_set_self h).1
    · rw [List.getElem?_set_ne c] at h
      obtain ⟨q, a, nf', nb', m'⟩ := e.mu j d1 h
      refine ⟨q, a, fun z => ?_, nb', m'.at mo_add rfl⟩
      rcases z with z | z
      · exact nf' z
      · subst z
        exact c (e.dis i j d d1 _ hi h hp a)
  · by_cases c : i = j
    · subst c
      exact nomatch (get_set_self h1).1
    · by_cases c2 : i = k
      · subst c2
        exact nomatch (get_set_self h2).1
      · rw [List.getElem?_set_ne c] at h1
        rw [List.getElem?_set_ne c2] at h2
        exact e.dis j k d1 d2 q h1 h2 h3 h4
  · by_cases c : i = j
    · subst c
      exact nomatch (get_set_self h).1
    · rw [List.getElem?_set_ne c] at h
      obtain ⟨ob, kvs, x, y, z⟩ := e.lk j a kds h
      exact ⟨ob, kvs, x, y, RpK.mo mo_add _ _ z⟩
  · by_cases c : i = j
    · subst c
      exact nomatch (get_set_self h).1
    · rw [List.getElem?_set_ne c] at h
      exact e.pt j a h
  · rcases f with f | f
    · exact e.fh a f
    · rw [f]
      exact m.ne
  · rcases f with f | f
    · exact e.bn a f
    · exact .inr (f ▸ nb)
end

def wipeE (ρ : Ro) : List Nat → Ro
  | [] => ρ
  | v :: vs => (wipeE ρ vs).set v Ent.no
theorem EnvR.no {B : Bs} {F : FS} {H : Hp} {σ : L2.St} {ρ : Ro} (e : EnvR B F H σ ρ) (i : Nat) (x : Option V) : EnvR B F H (σ.set i x) (ρ.set i Ent.no) where
  len := by rw [List.length_set, List.length_set, e.len]
  im := fun j d' h => by
    by_cases c : i = j
    · subst c
      exact nomatch (get_set_self h).1
    · rw [List.getElem?_set_ne c] at h
      rw [List.getElem?_set_ne c]
      exact e.im j d' h
  mu := fun j d' h => by
    by_cases c : i = j
    · subst c
      exact nomatch (get_set_self h).1
    · rw [List.getElem?_set_ne c] at h
      rw [List.getElem?_set_ne c]
      exact e.mu j d' h
  dis := fun j k d1 d2 p h1 h2 h3 h4 => by
    by_cases c : i = j
    · subst c
      exact nomatch (get_set_self h1).1
    · by_cases c2 : i = k
      · subst c2
        exact nomatch (get_set_self h2).1
      · rw [List.getElem?_set_ne c] at h1 h3
        rw [List.getElem?_set_ne c2] at h2 h4
        exact e.dis j k d1 d2 p h1 h2 h3 h4
  lk := fun j a d' h => by
    by_cases c : i = j
    · subst c
      exact nomatch (get_set_self h).1
    · rw [List.getElem?_set_ne c] at h
      rw [List.getElem?_set_ne c]
      exact e.lk j a d' h
  pt := fun j a h => by
    by_cases c : i = j
    · subst c
      exact nomatch (get_set_self h).1
    · rw [List.getElem?_set_ne c] at h
      rw [List.getElem?_set_ne c]
      exact e.pt j a h
  fh := e.fh
  bf := e.bf
  bs := e.bs
  bn := e.bn
theorem EnvR.forget {B : Bs} {F : FS} {H : Hp} {σ : L2.St} {ρ : Ro} (e : EnvR B F H σ ρ) : ∀ vs : List Nat, EnvR B F H σ (wipeE ρ vs)
  | [] => e
  | v :: vs => by
    have h := e.forget vs
    show EnvR B F H σ ((wipeE ρ vs).set v Ent.no)
    by_cases c : v < σ.length
    · have q := h.no v σ[v]
      rw [List.set_getElem_self] at q
      exact q
    · rw [List.set_eq_of_length_le (by rw [← h.len]; omega)]
      exact h
/-! ### reading what is one's own: the answer is flat -/
def flatD : D → Bool
  | .none | .bool _ | .int _ | .str _ => true
  | _ => false
theorem Rp.flat {F F' : FS} {H H' : Hp} : ∀ {d : D} {v : V}, flatD d = true → Rp F H d v → Rp F' H' d v
  | .none, _, _, h => h
  | .bool _, _, _, h => h
  | .int _, _, _, h => h
  | .str _, _, _, h => h
  | .list _, _, c, _ => nomatch c
  | .tuple _, _, c, _ => nomatch c
  | .dict _, _, c, _ => nomatch c
  | .dictT _, _, c, _ => nomatch c
theorem Rps.flat {F F' : FS} {H H' : Hp} : ∀ {ds : List D} {vs : List V}, (∀ d ∈ ds, flatD d = true) → Rps F H ds vs → Rps F' H' ds vs
  | [], _, _, h => h
  | d :: ds, vs, c, h => by
    obtain ⟨v, ws, e, p, q⟩ := h
    exact ⟨v, ws, e, p.flat (c d List.mem_cons_self), q.flat fun d hd => c d (List.mem_cons_of_mem _ hd)⟩
theorem gw_drop {F : FS} {H : Hp} {p : Addr} {F' : FS} {H' : Hp} (hF : ∀ a, F a → H a ≠ none) (g : Gw (addF F p) H F' H') : Gw F H F H' :=
  ⟨fun _ h => h, g.s, fun _ h => .inl h, fun a h => g.h a (g.f a (.inl h))⟩
section
variable {ρ : Ro} {te : TE} {tt : TT} {d e : D} {i : Nat}
theorem ev_mut (hi : ρ[i]? = some (Ent.mu d)) (h : Ev te (ρ.set i (Ent.im d)) e) (hf : flatD e = true := by rfl) : Ev te ρ e := fun B F H σ en Q k => by
  obtain ⟨p, hp, en', _, nf, nb, m⟩ := en.freeze hi
  exact h B _ H σ en' Q fun v F' H' g r => k v F H' (gw_drop en.fh g) (r.flat hf)
theorem et_mut {b : Bool} (hi : ρ[i]? = some (Ent.mu d)) (h : EvT tt (ρ.set i (Ent.im d)) b) : EvT tt ρ b := fun B F H σ en Q k => by
  obtain ⟨p, hp, en', _, nf, nb, m⟩ := en.freeze hi
  exact h B _ H σ en' Q fun F' H' g => k F H' (gw_drop en.fh g)
/-- a new list of flat things -/
theorem en_mut {ds : List D} (hi : ρ[i]? = some (Ent.mu d)) (h : EvN te (ρ.set i (Ent.im d)) (.list ds)) (hf : ∀ d ∈ ds, flatD d = true) : EvN te ρ (.list ds) := fun B F H σ en Q k => by
  obtain ⟨p, hp, en', _, nf, nb, m⟩ := en.freeze hi
  exact h B _ H σ en' Q fun q F' H' hq g nfq mq => k q F H' hq (gw_drop en.fh g) (fun f => en.fh q f hq) (by
    obtain ⟨xs, a, r⟩ := mq
    exact ⟨xs, a, r.flat hf⟩)
end

/-! ### targets -/
/-- the target g takes the datum d: ρ becomes ρ', slots out of S as they were -/
def TgD (g : TG) (S : List Nat) (d : D) (ρ ρ' : Ro) : Prop := ∀ B F H σ v, EnvR B F H σ ρ → Rp F H d v → ∀ Q : L2.St → Hp → Prop, (∀ σ', EnvR B F H σ' ρ' → σ'.length = σ.length → (∀ j : Nat, j ∉ S → σ'[j]? = σ[j]?) → Q σ' H) → g v σ H Q
def TgsD (g : TGs) (S : List Nat) (ds : List D) (ρ ρ' : Ro) : Prop := ∀ B F H σ vs, EnvR B F H σ ρ → Rps F H ds vs → ∀ Q : L2.St → Hp → Prop, (∀ σ', EnvR B F H σ' ρ' → σ'.length = σ.length → (∀ j : Nat, j ∉ S → σ'[j]? = σ[j]?) → Q σ' H) → g vs σ H Q
section
variable {ρ ρ' ρ'' : Ro} {d : D} {ds : List D} {K : PySem.W.Frag}
theorem tg_name {i : Nat} : TgD (gName i) [i] d ρ (ρ.set i (Ent.im d)) := fun B F H σ v en r Q k => k _ (en.set i r) (List.length_set ..) fun j hj => List.getElem?_set_ne fun z => hj (by rw [z]; exact List.mem_singleton_self _)
theorem tgs_nil : TgsD gNil [] [] ρ ρ := fun B F H σ vs en r Q k => ⟨r, k σ en rfl fun _ _ => rfl⟩
theorem tgs_cons {t : TG} {u : TGs} {S S' : List Nat} (h1 : TgD t S d ρ ρ') (h2 : TgsD u S' ds ρ' ρ'') : TgsD (gCons t u) (S ++ S') (d :: ds) ρ ρ'' := fun B F H σ vs en r Q k => by
  obtain ⟨v, ws, rfl, p, q⟩ := r
  refine ⟨v, ws, rfl, h1 B F H σ v en p _ fun σ1 en1 l1 k1 => h2 B F H σ1 ws en1 q _ fun σ2 en2 l2 k2 => k σ2 en2 (l2.trans l1) fun j hj => ?_⟩
  rw [List.mem_append, not_or] at hj
  exact (k2 j hj.2).trans (k1 j hj.1)
theorem tg_tup {t : TGs} {S : List Nat} {n : Nat} (h : TgsD t S ds ρ ρ') (hn : ds.length = n := by rfl) : TgD (gTup K n t) S (.tuple ds) ρ ρ' := fun B F H σ v en r Q k => by
  obtain ⟨a, xs, rfl, fa, ha, q⟩ := r
  exact ⟨a, xs, rfl, SqT.of ha, by rw [q.len]; exact hn, h B F H σ xs en q Q k⟩
end

/-! ### statements -/
structure Po where
  nx : Ro → Prop
  rt : D → Prop
  bk : Ro → Prop := fun _ => False
  ct : Ro → Prop := fun _ => False
  own : Bool := false
/-- what is handed back: a datum, or a new list or dict that nobody holds -/
def RetD (own : Bool) (B : Bs) (F : FS) (H : Hp) (d : D) (v : V) : Prop := if own = true then ∃ p, v = V.ref p ∧ ¬ F p ∧ B.H p = none ∧ MutC F H d p else Rp F H d v
/-- the statement, begun in ρ, ends as Φ says -/
def Sw (ts : TS) (ρ : Ro) (Φ : Po) : Prop := ∀ B F H σ, EnvR B F H σ ρ → ∀ Dn : Ends, (∀ ρ' F' H' σ', Φ.nx ρ' → EnvR B F' H' σ' ρ' → Fr F H F' H' → Dn.nx σ' H') → (∀ d v F' H', Φ.rt d → Gw B.F B.H F' H' → RetD Φ.own B F' H' d v → Dn.rt v H') →
  (∀ ρ' F' H' σ', Φ.bk ρ' → EnvR B F' H' σ' ρ' → Fr F H F' H' → Dn.bk σ' H') → (∀ ρ' F' H' σ', Φ.ct ρ' → EnvR B F' H' σ' ρ' → Fr F H F' H' → Dn.ct σ' H') → ts Dn σ H
section
variable {ρ ρ' : Ro} {te ta : TE} {t u : TS} {d e : D} {Φ : Po} {i : Nat} {K : PySem.W.Frag} {P : D → Prop}
theorem sw_seq (h : Sw t ρ { Φ with nx := fun ρ' => Sw u ρ' Φ }) : Sw (tSeq t u) ρ Φ := fun B F H σ en Dn kn kr kb kc =>
  h B F H σ en { Dn with nx := u Dn } (fun ρ' F' H' σ' hs en' fr => hs B F' H' σ' en' Dn (fun ρ2 F2 H2 σ2 a b c => kn ρ2 F2 H2 σ2 a b (fr.trans c)) kr (fun ρ2 F2 H2 σ2 a b c => kb ρ2 F2 H2 σ2 a b (fr.trans c)) (fun ρ2 F2 H2 σ2 a b c => kc ρ2 F2 H2 σ2 a b (fr.trans c))) kr kb kc
theorem sw_next (h : Φ.nx ρ) : Sw tNext ρ Φ := fun B F H σ en Dn kn kr kb kc => kn ρ F H σ h en Fr.refl
theorem sw_asgP {g : TG} {S : List Nat} (h : EvP te ρ P) (hg : ∀ d, P d → ∃ ρ', TgD g S d ρ ρ' ∧ Φ.nx ρ') : Sw (tAsg te g) ρ Φ := fun B F H σ en Dn kn kr kb kc =>
  h B F H σ en _ fun d v F1 H1 p g1 r1 => by
    obtain ⟨ρ', tg, q⟩ := hg d p
    exact tg B F1 H1 σ v (en.gw g1) r1 _ fun σ' en' _ _ => kn ρ' F1 H1 σ' q en' (g1.fr en.fh)
theorem sw_asg (h : Ev te ρ d) (q : Φ.nx (ρ.set i (Ent.im d))) : Sw (tAsg te (gName i)) ρ Φ := sw_asgP (S := [i]) h.p fun d' e => ⟨_, tg_name, e ▸ q⟩
theorem sw_asgT {g : TG} {S : List Nat} (h : Ev te ρ d) (tg : TgD g S d ρ ρ') (q : Φ.nx ρ') : Sw (tAsg te g) ρ Φ := sw_asgP (S := S) h.p fun d' e => ⟨ρ', e ▸ tg, q⟩
theorem sw_asgN (h : EvN te ρ d) (q : Φ.nx (ρ.set i (Ent.mu d))) : Sw (tAsg te (gName i)) ρ Φ := fun B F H σ en Dn kn kr kb kc =>
  h B F H σ en _ fun p F1 H1 hp g1 nf m => kn _ F1 H1 _ q ((en.gw g1).setM i nf (en.bs.free hp) m fun j d' hj hσ => by
    obtain ⟨p', a, _, _, m'⟩ := en.mu j d' hj
    rw [hσ] at a
    cases a
    exact absurd hp m'.ne) (g1.fr en.fh)
theorem sw_retP (h : EvP te ρ P) (q : ∀ d, P d → Φ.rt d) (ho : Φ.own = false := by rfl) : Sw (tRet te) ρ Φ := fun B F H σ en Dn kn kr kb kc =>
  h B F H σ en _ fun d v F1 H1 p g1 r1 => kr d v F1 H1 (q d p) (en.ex.trans g1) (by
    unfold RetD
    rw [ho]
    exact r1)
theorem sw_ret (h : Ev te ρ d) (q : Φ.rt d) (ho : Φ.own = false := by rfl) : Sw (tRet te) ρ Φ := sw_retP h.p (fun _ e => e ▸ q) ho
/-- a list or dict of one's own is handed back, nobody else holds it -/
theorem sw_retN (hi : ρ[i]? = some (Ent.mu d)) (q : Φ.rt d) (ho : Φ.own = true := by rfl) : Sw (tRet (tVar i)) ρ Φ := fun B F H σ en Dn kn kr kb kc => by
  obtain ⟨p, hp, nf, nb, m⟩ := en.mu i d hi
  exact ⟨_, hp, kr d _ F H q en.ex (by
    unfold RetD
    rw [ho]
    exact ⟨p, rfl, nf, nb, m⟩)⟩
theorem sw_retE (h : EvN te ρ d) (q : Φ.rt d) (ho : Φ.own = true := by rfl) : Sw (tRet te) ρ Φ := fun B F H σ en Dn kn kr kb kc =>
  h B F H σ en _ fun p F1 H1 hp g1 nf m => kr d _ F1 H1 q (en.ex.trans g1) (by
    unfold RetD
    rw [ho]
    exact ⟨p, rfl, nf, en.bs.free hp, m⟩)
theorem sw_freeze (hi : ρ[i]? = some (Ent.mu d)) (h : Sw t (ρ.set i (Ent.im d)) Φ) : Sw t ρ Φ := fun B F H σ en Dn kn kr kb kc => by
  obtain ⟨p, hp, en', fr, nf, nb, m⟩ := en.freeze hi
  exact h B _ H σ en' Dn (fun ρ2 F2 H2 σ2 a b c => kn ρ2 F2 H2 σ2 a b (fr.trans c)) kr (fun ρ2 F2 H2 σ2 a b c => kb ρ2 F2 H2 σ2 a b (fr.trans c)) (fun ρ2 F2 H2 σ2 a b c => kc ρ2 F2 H2 σ2 a b (fr.trans c))
theorem sw_retM (hi : ρ[i]? = some (Ent.mu d)) (q : Φ.rt d) (ho : Φ.own = false := by rfl) : Sw (tRet (tVar i)) ρ Φ := sw_freeze hi (sw_ret (ev_var (by
  have hl : i < ρ.length := (List.getElem?_eq_some_iff.mp hi).1
  exact List.getElem?_set_self hl)) q ho)
theorem sw_if {c : TT} {b : Bool} (h : EvT c ρ b) (h1 : b = true → Sw t ρ Φ) (h2 : b = false → Sw u ρ Φ) : Sw (tIfS c t u) ρ Φ := fun B F H σ en Dn kn kr kb kc =>
  h B F H σ en _ fun F1 H1 g1 => by
    have fr := g1.fr en.fh
    cases b with
    | true =>
      rw [if_pos rfl]
      exact h1 rfl B F1 H1 σ (en.gw g1) Dn (fun ρ2 F2 H2 σ2 a b c => kn ρ2 F2 H2 σ2 a b (fr.trans c)) kr (fun ρ2 F2 H2 σ2 a b c => kb ρ2 F2 H2 σ2 a b (fr.trans c)) (fun ρ2 F2 H2 σ2 a b c => kc ρ2 F2 H2 σ2 a b (fr.trans c))
    | false =>
      rw [if_neg Bool.false_ne_true]
      exact h2 rfl B F1 H1 σ (en.gw g1) Dn (fun ρ2 F2 H2 σ2 a b c => kn ρ2 F2 H2 σ2 a b (fr.trans c)) kr (fun ρ2 F2 H2 σ2 a b c => kb ρ2 F2 H2 σ2 a b (fr.trans c)) (fun ρ2 F2 H2 σ2 a b c => kc ρ2 F2 H2 σ2 a b (fr.trans c))
theorem sw_aug {a b : Int} {f : Int → Int → Int} (hi : ρ[i]? = some (Ent.im (.int a))) (h : Ev te ρ (.int b)) (q : Φ.nx (ρ.set i (Ent.im (.int (f a b))))) : Sw (tAug i te (ipI f)) ρ Φ := fun B F H σ en Dn kn kr kb kc => by
  obtain ⟨x, hx, r⟩ := en.im i _ hi
  refine ⟨x, hx, h B F H σ en _ fun y F1 H1 g1 r1 => ⟨a, b, r, r1, ?_⟩⟩
  exact kn _ F1 H1 _ q ((en.gw g1).set i (v := .int (f a b)) rfl) (g1.fr en.fh)
theorem fr_write {F : FS} {H : Hp} {p : Addr} {o : HO} (nf : ¬ F p) : Fr F H F (upd H p o) := ⟨fun _ h => h, fun a h => upd_ne fun c => nf (c ▸ h)⟩
theorem mo_write {F : FS} {H : Hp} {p : Addr} {o : HO} (nf : ¬ F p) : Mo F H F (upd H p o) := (fr_write nf).mo
/-- xs.append(e), xs of one's own -/
theorem sw_appendP {ds : List D} (hi : ρ[i]? = some (Ent.mu (.list ds))) (h : EvP te ρ P) (hl : ds.length < 10000) (q : ∀ d, P d → Φ.nx (ρ.set i (Ent.mu (.list (ds ++ [d]))))) : Sw (tDrop (tBM K "list" rAppend (tVar i) (tCons te tNil))) ρ Φ := fun B F H σ en Dn kn kr kb kc => by
  obtain ⟨p, hp, nf, nb, xs, hxs, rx⟩ := en.mu i _ hi
  refine ⟨.ref p, hp, .inl ⟨rfl, xs, SqL.of hxs⟩, h B F H σ en _ fun d v F1 H1 pd g1 r1 => ?_⟩
  have en1 := en.gw g1
  obtain ⟨p', hp', nf1, nb1, _⟩ := en1.mu i _ hi
  rw [hp] at hp'
  cases hp'
  refine ⟨p, xs, v, rfl, rfl, g1.s _ _ hxs, big_lt (by rw [rx.len]; exact hl), ?_⟩
  exact kn _ F1 _ σ (q d pd) (en1.write hi hp ⟨_, upd_same, Rps.mo (mo_write nf1) _ _ ((rx.gw g1).append (Rps.one r1))⟩) ((g1.fr en.fh).trans (fr_write nf1))
theorem sw_append {ds : List D} (hi : ρ[i]? = some (Ent.mu (.list ds))) (h : Ev te ρ d) (hl : ds.length < 10000) (q : Φ.nx (ρ.set i (Ent.mu (.list (ds ++ [d]))))) : Sw (tDrop (tBM K "list" rAppend (tVar i) (tCons te tNil))) ρ Φ := sw_appendP hi h.p hl fun _ e => e ▸ q
theorem sw_extendP {ds : List D} {P : List D → Prop} (hi : ρ[i]? = some (Ent.mu (.list ds))) (h : EvP te ρ fun d => ∃ es, d = .list es ∧ P es) (hl : ∀ es, P es → ds.length + es.length ≤ 10000) (q : ∀ es, P es → Φ.nx (ρ.set i (Ent.mu (.list (ds ++ es))))) : Sw (tDrop (tBM K "list" rExtend (tVar i) (tCons te tNil))) ρ Φ := fun B F H σ en Dn kn kr kb kc => by
  obtain ⟨p, hp, nf, nb, xs, hxs, rx⟩ := en.mu i _ hi
  refine ⟨.ref p, hp, .inl ⟨rfl, xs, SqL.of hxs⟩, h B F H σ en _ fun d v F1 H1 pd g1 r1 => ?_⟩
  obtain ⟨es, rfl, pes⟩ := pd
  have en1 := en.gw g1
  obtain ⟨p', hp', nf1, nb1, _⟩ := en1.mu i _ hi
  rw [hp] at hp'
  cases hp'
  obtain ⟨b, ys, rfl, fb, hb, ry⟩ := r1
  refine ⟨p, b, xs, ys, rfl, rfl, g1.s _ _ hxs, hb, big_ok (by rw [rx.len, ry.len]; exact hl es pes), ?_⟩
  exact kn _ F1 _ σ (q es pes) (en1.write hi hp ⟨_, upd_same, Rps.mo (mo_write nf1) _ _ ((rx.gw g1).append ry)⟩) ((g1.fr en.fh).trans (fr_write nf1))
/-- d[k] = e, d of one's own -/
theorem sw_dputS {ty : TE} {kds : List (Key × D)} {n : Str} (hi : ρ[i]? = some (Ent.mu (.dict kds))) (hv : Ev te ρ d) (hk : Ev ty ρ (.str n)) (hl : kds.length < 10000) (q : Φ.nx (ρ.set i (Ent.mu (.dict (putD kds (.inr n) d))))) : Sw (sDPut (tVar i) ty te) ρ Φ := fun B F H σ en Dn kn kr kb kc => by
  obtain ⟨p, hp, nf, nb, xs, hxs, rx⟩ := en.mu i _ hi
  refine hv B F H σ en _ fun v F1 H1 g1 r1 => ⟨.ref p, hp, hk B F1 H1 σ (en.gw g1) _ fun y F2 H2 g2 r2 => ?_⟩
  have en2 := (en.gw g1).gw g2
  obtain ⟨p', hp', nf2, nb2, _⟩ := en2.mu i _ hi
  rw [hp] at hp'
  cases hp'
  have g := g1.trans g2
  have r2 : y = .str n := r2
  subst r2
  refine ⟨p, _, rfl, .inl ⟨xs, .inr n, g.s _ _ hxs, rfl, big_lt (by rw [(pk_of rx).len]; exact hl), rfl⟩, ?_⟩
  exact kn _ F2 _ σ q (en2.write hi hp ⟨_, upd_same, RpK.mo (mo_write nf2) _ _ (rpk_of ((pk_of (RpK.mo g.mo _ _ rx)).put (r1.gw g2)))⟩) ((g.fr en.fh).trans (fr_write nf2))
theorem sw_dputT {ty : TE} {kds : List (List Key × D)} {n : Str} {w : Int} (hi : ρ[i]? = some (Ent.mu (.dictT kds))) (hv : Ev te ρ d) (hk : Ev ty ρ (.tuple [.str n, .int w])) (hl : kds.length < 10000) (q : Φ.nx (ρ.set i (Ent.mu (.dictT (putD kds (key2 n w) d))))) : Sw (sDPut (tVar i) ty te) ρ Φ := fun B F H σ en Dn kn kr kb kc => by
  obtain ⟨p, hp, nf, nb, xs, hxs, rx⟩ := en.mu i _ hi
  refine hv B F H σ en _ fun v F1 H1 g1 r1 => ⟨.ref p, hp, hk B F1 H1 σ (en.gw g1) _ fun y F2 H2 g2 r2 => ?_⟩
  have en2 := (en.gw g1).gw g2
  obtain ⟨p', hp', nf2, nb2, _⟩ := en2.mu i _ hi
  rw [hp] at hp'
  cases hp'
  have g := g1.trans g2
  obtain ⟨b, rfl, hb⟩ := key_tup r2
  refine ⟨p, _, rfl, .inr ⟨xs, key2 n w, b, g.s _ _ hxs, rfl, hb, big_lt (by rw [(pt_of rx).len]; exact hl), rfl⟩, ?_⟩
  exact kn _ F2 _ σ q (en2.write hi hp ⟨_, upd_same, RpT.mo (mo_write nf2) _ _ (rpt_of ((pt_of (RpT.mo g.mo _ _ rx)).put (r1.gw g2)))⟩) ((g.fr en.fh).trans (fr_write nf2))
theorem sw_drop (h : Ev te ρ d) (q : Φ.nx ρ) : Sw (tDrop te) ρ Φ := fun B F H σ en Dn kn kr kb kc => h B F H σ en _ fun v F1 H1 g1 r1 => kn ρ F1 H1 σ q (en.gw g1) (g1.fr en.fh)
end

/-! ### walks -/
structure WkJ (J : It) (ds : List D) (F1 : FS) (H1 : Hp) : Prop where
  go : ∀ i F H, i < ds.length → Fr F1 H1 F H → J.go i H
  stop : ∀ F H, Fr F1 H1 F H → J.stop ds.length H
  yld : ∀ i F H x H', i < ds.length → Fr F1 H1 F H → (∀ a, F a → H a ≠ none) → J.yld i H x H' → ∃ F' d, Gw F H F' H' ∧ ds[i]? = some d ∧ Rp F' H' d x
def WkD (wi : TI) (ρ : Ro) (ds : List D) : Prop := ∀ B F H σ, EnvR B F H σ ρ → ∀ R : It → Hp → Prop, (∀ J F' H', Gw F H F' H' → WkJ J ds F' H' → R J H') → wi σ H R
section
variable {ρ : Ro} {te : TE} {ds es : List D} {K : PySem.W.Frag}
theorem wk_list (h : Ev te ρ (.list ds)) : WkD (iList K te) ρ ds := fun B F H σ en R k => h B F H σ en _ fun v F1 H1 g1 r1 => by
  obtain ⟨a, xs, rfl, fa, ha, r⟩ := r1
  refine ⟨a, rfl, ⟨xs, SqL.of ha⟩, k _ F1 H1 g1 ⟨fun i F2 H2 hi fr => ?_, fun F2 H2 fr => ?_, fun i F2 H2 x H' hi fr hF y => ?_⟩⟩
  · have hi' : i < xs.length := by rw [r.len]; exact hi
    exact ⟨xs, xs[i], SqL.of ((fr.e a fa).trans ha), List.getElem?_eq_getElem hi'⟩
  · exact ⟨xs, SqL.of ((fr.e a fa).trans ha), by rw [r.len]; exact Nat.le_refl _⟩
  · obtain ⟨rfl, y⟩ := y
    have hx := y xs (SqL.of ((fr.e a fa).trans ha))
    obtain ⟨d, hd, rd⟩ := (Rps.mo fr.mo _ _ r).of_get hx
    exact ⟨F2, d, Gw.refl hF, hd, rd⟩
theorem wk_tup (h : Ev te ρ (.tuple ds)) : WkD (iTup K te) ρ ds := fun B F H σ en R k => h B F H σ en _ fun v F1 H1 g1 r1 => by
  obtain ⟨a, xs, rfl, fa, ha, r⟩ := r1
  refine ⟨a, rfl, ⟨xs, SqT.of ha⟩, k _ F1 H1 g1 ⟨fun i F2 H2 hi fr => ?_, fun F2 H2 fr => ?_, fun i F2 H2 x H' hi fr hF y => ?_⟩⟩
  · have hi' : i < xs.length := by rw [r.len]; exact hi
    exact ⟨xs, xs[i], SqT.of ((fr.e a fa).trans ha), List.getElem?_eq_getElem hi'⟩
  · exact ⟨xs, SqT.of ((fr.e a fa).trans ha), by rw [r.len]; exact Nat.le_refl _⟩
  · obtain ⟨rfl, y⟩ := y
    have hx := y xs (SqT.of ((fr.e a fa).trans ha))
    obtain ⟨d, hd, rd⟩ := (Rps.mo fr.mo _ _ r).of_get hx
    exact ⟨F2, d, Gw.refl hF, hd, rd⟩
/-- 0, 1, .. below n -/
def upto (n : Nat) : List D := (List.range n).map fun (i : Nat) => D.int (i : Int)
theorem upto_get {n i : Nat} (h : i < n) : (upto n)[i]? = some (.int (i : Int)) := by
  unfold upto
  rw [List.getElem?_map, List.getElem?_range h]
  rfl
theorem upto_len (n : Nat) : (upto n).length = n := by unfold upto; rw [List.length_map, List.length_range]
theorem wk_range {ta : TA} {n : Nat} (h : EvA ta ρ [.int (n : Int)]) (hn : n ≤ 10000) : WkD (iRng1 ta) ρ (upto n) := fun B F H σ en R k => h B F H σ en _ fun vs F1 H1 g1 r1 => by
  obtain ⟨v, ws, rfl, p, q⟩ := r1
  have p : v = .int n := p
  have q : ws = [] := q
  subst p q
  refine ⟨n, rfl, by omega, by omega, ?_⟩
  have e : (n : Int).toNat = n := Int.toNat_natCast n
  rw [e]
  refine k _ F1 H1 g1 ⟨fun i F2 H2 hi fr => by rw [upto_len] at hi; exact hi, fun F2 H2 fr => by rw [upto_len]; exact Nat.le_refl n, fun i F2 H2 x H' hi fr hF y => ?_⟩
  obtain ⟨rfl, rfl⟩ := y
  rw [upto_len] at hi
  exact ⟨F2, _, Gw.refl hF, upto_get hi, by show V.int _ = V.int _; rw [Int.zero_add]⟩
/-- (0, first), (1, second), .. -/
def enumD (ds : List D) : List D := ds.mapIdx fun i d => .tuple [.int (i : Int), d]
theorem enumD_get {i : Nat} {d : D} (h : ds[i]? = some d) : (enumD ds)[i]? = some (.tuple [.int (i : Int), d]) := by
  unfold enumD
  rw [List.getElem?_mapIdx, h]
  rfl
theorem enumD_len : (enumD ds).length = ds.length := List.length_mapIdx
theorem pair_new {F : FS} {H : Hp} {T : Addr} {d e : D} {x y : V} (hF : ∀ a, F a → H a ≠ none) (hT : H T = none) (rx : Rp F H d x) (ry : Rp F H e y) :
    Gw F H (addF F T) (upd H T (.tup [x, y])) ∧ Rp (addF F T) (upd H T (.tup [x, y])) (.tuple [d, e]) (.ref T) :=
  ⟨Gw.new hF hT, rp_newT hF hT ⟨x, [y], rfl, rx, y, [], rfl, ry, rfl⟩⟩
theorem wk_enum {ta : TA} (h : EvA ta ρ [.list ds]) : WkD (iEnum K ta) ρ (enumD ds) := fun B F H σ en R k => h B F H σ en _ fun vs F1 H1 g1 r1 => by
  obtain ⟨v, ws, rfl, p, q⟩ := r1
  have q : ws = [] := q
  subst q
  obtain ⟨a, xs, rfl, fa, ha, r⟩ := p
  refine ⟨a, xs, rfl, SqL.of ha, k _ F1 H1 g1 ⟨fun i F2 H2 hi fr => ?_, fun F2 H2 fr => ?_, fun i F2 H2 x H' hi fr hF y => ?_⟩⟩
  · rw [enumD_len] at hi
    have hi' : i < xs.length := by rw [r.len]; exact hi
    exact ⟨xs, xs[i], SqL.of ((fr.e a fa).trans ha), List.getElem?_eq_getElem hi'⟩
  · exact ⟨xs, SqL.of ((fr.e a fa).trans ha), by rw [r.len, enumD_len]; exact Nat.le_refl _⟩
  · obtain ⟨T, z, rfl, hT, rfl, y⟩ := y
    have hx := y xs (SqL.of ((fr.e a fa).trans ha))
    obtain ⟨d, hd, rd⟩ := (Rps.mo fr.mo _ _ r).of_get hx
    obtain ⟨g, rp⟩ := pair_new (d := .int (i : Int)) (x := .int (i : Int)) hF hT rfl rd
    exact ⟨_, _, g, enumD_get hd, rp⟩
/-- pairs of two lists of one length -/
def zipD (ds es : List D) : List D := (ds.zip es).map fun p => .tuple [p.1, p.2]
theorem zipD_get {i : Nat} {d e : D} (h1 : ds[i]? = some d) (h2 : es[i]? = some e) : (zipD ds es)[i]? = some (.tuple [d, e]) := by
  unfold zipD
  have e1 : (ds.zip es)[i]? = some (d, e) := List.getElem?_zip_eq_some.mpr ⟨h1, h2⟩
  rw [List.getElem?_map, e1]
  rfl
theorem zipD_len : (zipD ds es).length = min ds.length es.length := by unfold zipD; rw [List.length_map, List.length_zip]
theorem wk_zip {ta : TA} (h : EvA ta ρ [.list ds, .list es]) : WkD (iZip K ta) ρ (zipD ds es) := fun B F H σ en R k => h B F H σ en _ fun vs F1 H1 g1 r1 => by
  obtain ⟨v, ws, rfl, p, w, ws', rfl, p', q⟩ := r1
  have q : ws' = [] := q
  subst q
  obtain ⟨a, xs, rfl, fa, ha, r⟩ := p
  obtain ⟨b, ys, rfl, fb, hb, r'⟩ := p'
  refine ⟨a, b, xs, ys, rfl, SqL.of ha, SqL.of hb, k _ F1 H1 g1 ⟨fun i F2 H2 hi fr => ?_, fun F2 H2 fr => ?_, fun i F2 H2 x H' hi fr hF y => ?_⟩⟩
  · rw [zipD_len] at hi
    have h1 : i < xs.length := by rw [r.len]; omega
    have h2 : i < ys.length := by rw [r'.len]; omega
    exact ⟨xs, ys, xs[i], ys[i], SqL.of ((fr.e a fa).trans ha), SqL.of ((fr.e b fb).trans hb), List.getElem?_eq_getElem h1, List.getElem?_eq_getElem h2⟩
  · refine ⟨xs, ys, SqL.of ((fr.e a fa).trans ha), SqL.of ((fr.e b fb).trans hb), ?_⟩
    rw [zipD_len, r.len, r'.len]
    omega
  · obtain ⟨T, z, z', rfl, hT, rfl, y, y'⟩ := y
    have hx := y xs (SqL.of ((fr.e a fa).trans ha))
    have hx' := y' ys (SqL.of ((fr.e b fb).trans hb))
    obtain ⟨d, hd, rd⟩ := (Rps.mo fr.mo _ _ r).of_get hx
    obtain ⟨d', hd', rd'⟩ := (Rps.mo fr.mo _ _ r').of_get hx'
    obtain ⟨g, rp⟩ := pair_new hF hT rd rd'
    exact ⟨_, _, g, zipD_get hd hd', rp⟩
/-- the signs of a text -/
def signsD (z : Str) : List D := z.cps.toList.map fun c => .str ⟨#[c]⟩
theorem wk_str {z : Str} (h : Ev te ρ (.str z)) : WkD (iStr te) ρ (signsD z) := fun B F H σ en R k => h B F H σ en _ fun v F1 H1 g1 r1 => by
  have hl : (signsD z).length = z.cps.size := by unfold signsD; rw [List.length_map, Array.length_toList]
  refine ⟨z, r1, k _ F1 H1 g1 ⟨fun i F2 H2 hi fr => by rw [hl] at hi; exact hi, fun F2 H2 fr => by rw [hl]; exact Nat.le_refl _, fun i F2 H2 x H' hi fr hF y => ?_⟩⟩
  obtain ⟨rfl, c, hc, rfl⟩ := y
  refine ⟨F2, .str ⟨#[c]⟩, Gw.refl hF, ?_, rfl⟩
  unfold signsD
  rw [List.getElem?_map, Array.getElem?_toList, hc]
  rfl

/-! ### for -/
variable {t : TS} {g : TG} {Φ : Po} {wi : TI} {S : List Nat}
theorem sw_for (vs : List Nat) (hw : WkD wi ρ ds) (I : Nat → Ro → Prop) (h0 : I 0 (wipeE ρ vs))
    (hs : ∀ (i : Nat) (d : D) ρ', ds[i]? = some d → I i ρ' → ∃ S ρ2, TgD g S d ρ' ρ2 ∧ Sw t ρ2 { Φ with nx := fun ρ3 => I (i + 1) (wipeE ρ3 vs), ct := fun ρ3 => I (i + 1) (wipeE ρ3 vs), bk := Φ.nx }) (hd : ∀ ρ', I ds.length ρ' → Φ.nx ρ') : Sw (tFor wi g t) ρ Φ := fun B F H σ en Dn kn kr kb kc =>
  hw B F H σ en _ fun J F1 H1 g1 W => by
    have fr0 := g1.fr en.fh
    refine ⟨fun i m σ' H' => m = ds.length - i ∧ i ≤ ds.length ∧ ∃ ρ' F', I i ρ' ∧ EnvR B F' H' σ' ρ' ∧ Fr F1 H1 F' H', ⟨_, rfl, Nat.zero_le _, _, F1, h0, (en.gw g1).forget vs, Fr.refl⟩, ?_⟩
    rintro i m σ' H' ⟨rfl, hi, ρ', F', inv, en', fr⟩
    by_cases c : i < ds.length
    · refine .inr ⟨W.go i F' H' c fr, fun σ2 H2 => ∃ ρ2 F2, I (i + 1) ρ2 ∧ EnvR B F2 H2 σ2 ρ2 ∧ Fr F1 H1 F2 H2, fun σ2 H2 ⟨ρ2, F2, a, b, e⟩ => ⟨ds.length - (i + 1), by omega, rfl, c, ρ2, F2, a, b, e⟩, fun x H2 y => ?_⟩
      obtain ⟨F2, d, g2, hd2, r2⟩ := W.yld i F' H' x H2 c fr en'.fh y
      obtain ⟨S, ρ2, tg, sw⟩ := hs i d ρ' hd2 inv
      have fr2 := fr.trans (g2.fr en'.fh)
      exact tg B F2 H2 σ' x (en'.gw g2) r2 _ fun σ3 en3 _ _ => sw B F2 H2 σ3 en3 _ (fun ρ4 F4 H4 σ4 a b e => ⟨_, F4, a, b.forget vs, fr2.trans e⟩) kr (fun ρ4 F4 H4 σ4 a b e => kn ρ4 F4 H4 σ4 a b ((fr0.trans fr2).trans e)) (fun ρ4 F4 H4 σ4 a b e => ⟨_, F4, a, b.forget vs, fr2.trans e⟩)
    · have e : i = ds.length := by omega
      subst e
      exact .inl ⟨W.stop F' H' fr, kn ρ' F' H' σ' (hd ρ' inv) en' (fr0.trans fr)⟩
/-- while: a measure falls -/
theorem sw_while (vs : List Nat) {c : TT} (I : Nat → Ro → Prop) (m0 : Nat) (h0 : I m0 (wipeE ρ vs))
    (hs : ∀ m ρ', I m ρ' → ∃ b, EvT c ρ' b ∧ (b = true → Sw t ρ' { Φ with nx := fun ρ2 => ∃ m', m' < m ∧ I m' (wipeE ρ2 vs), ct := fun ρ2 => ∃ m', m' < m ∧ I m' (wipeE ρ2 vs), bk := Φ.nx }) ∧ (b = false → Φ.nx ρ')) : Sw (tWhile c t) ρ Φ := fun B F H σ en Dn kn kr kb kc => by
  refine ⟨fun m σ' H' => ∃ ρ' F', I m ρ' ∧ EnvR B F' H' σ' ρ' ∧ Fr F H F' H', ⟨m0, _, F, h0, en.forget vs, Fr.refl⟩, ?_⟩
  rintro m σ' H' ⟨ρ', F', inv, en', fr⟩
  obtain ⟨b, et, h1, h2⟩ := hs m ρ' inv
  refine et B F' H' σ' en' _ fun F1 H1 g1 => ?_
  have fr1 := fr.trans (g1.fr en'.fh)
  cases b with
  | true =>
    rw [if_pos rfl]
    refine ⟨fun σ2 H2 => ∃ ρ2 F2, (∃ m', m' < m ∧ I m' ρ2) ∧ EnvR B F2 H2 σ2 ρ2 ∧ Fr F H F2 H2, fun σ2 H2 ⟨ρ2, F2, ⟨m', l, a⟩, b, e⟩ => ⟨m', l, ρ2, F2, a, b, e⟩, ?_⟩
    exact h1 rfl B F1 H1 σ' (en'.gw g1) _ (fun ρ4 F4 H4 σ4 ⟨m', l, a⟩ b e => ⟨_, F4, ⟨m', l, a⟩, b.forget vs, fr1.trans e⟩) kr (fun ρ4 F4 H4 σ4 a b e => kn ρ4 F4 H4 σ4 a b (fr1.trans e)) (fun ρ4 F4 H4 σ4 ⟨m', l, a⟩ b e => ⟨_, F4, ⟨m', l, a⟩, b.forget vs, fr1.trans e⟩)
  | false =>
    rw [if_neg Bool.false_ne_true]
    exact kn ρ' F1 H1 σ' (h2 rfl) (en'.gw g1) fr1
end
end Tk

set_option Elab.async false
set_option linter.all false
set_option maxRecDepth 100000
set_option maxHeartbeats 1000000
/-! Tk4: the logic of data: comprehensions, dicts walked, calls, a def's promise by its data, more of values. -/
namespace Tk
open PySem PySem.Spec PyProof.Rows L2

/-! ### comprehensions -/
theorem EnvR.wipe {B : Bs} {F : FS} {H : Hp} {σ : L2.St} {ρ : Ro} (e : EnvR B F H σ ρ) : ∀ vs : List Nat, EnvR B F H (L2.wipe σ vs) (wipeE ρ vs)
  | [] => e
  | v :: vs => (e.wipe vs).no v none
theorem wipe_get {σ : L2.St} {j : Nat} : ∀ {vs : List Nat}, (L2.wipe σ vs)[j]? = if j ∈ vs ∧ j < σ.length then some none else σ[j]?
  | [] => by
    rw [if_neg (fun c => nomatch c.1)]
    rfl
  | v :: vs => by
    show ((L2.wipe σ vs).set v none)[j]? = _
    by_cases c : v = j
    · subst c
      by_cases l : v < σ.length
      · rw [List.getElem?_set_self (by rw [wipe_length]; exact l), if_pos ⟨List.mem_cons_self, l⟩]
      · rw [List.getElem?_eq_none (by rw [List.length_set, wipe_length]; omega), if_neg (fun c => l c.2), List.getElem?_eq_none (by omega)]
    · rw [List.getElem?_set_ne c, wipe_get]
      have e : (j ∈ v :: vs ∧ j < σ.length) ↔ (j ∈ vs ∧ j < σ.length) := by
        rw [List.mem_cons]
        constructor
        · rintro ⟨h | h, l⟩
          · exact absurd h.symm c
          · exact ⟨h, l⟩
        · rintro ⟨h, l⟩
          exact ⟨.inr h, l⟩
      simp only [e]
theorem wipe_eq {σ σ2 : L2.St} {vs : List Nat} (hl : σ2.length = σ.length) (h : ∀ j : Nat, j ∉ vs → σ2[j]? = σ[j]?) : L2.wipe σ2 vs = L2.wipe σ vs := by
  apply List.ext_getElem?
  intro j
  rw [wipe_get, wipe_get, hl]
  by_cases c : j ∈ vs ∧ j < σ.length
  · rw [if_pos c, if_pos c]
  · rw [if_neg c, if_neg c]
    by_cases m : j ∈ vs
    · have l : ¬ j < σ.length := fun l => c ⟨m, l⟩
      rw [List.getElem?_eq_none (by omega), List.getElem?_eq_none (by omega)]
    · exact h j m
theorem fm_succ {α β : Type} {l : List α} {f : α → Option β} {i : Nat} {d : α} (h : l[i]? = some d) : (l.take (i + 1)).filterMap f = (l.take i).filterMap f ++ (f d).toList := by
  rw [List.take_add_one, h, List.filterMap_append]
  cases e : f d <;> simp [e]
section
variable {ρ : Ro} {te ta : TE} {tt : TT} {g : TG} {wi : TI} {ds : List D} {K : PySem.W.Frag} {vs : List Nat}
theorem en_lc {α : Type} (xs : List α) (gd : α → D) (hw : WkD wi ρ (xs.map gd)) (f : α → Option D) (hl : xs.length ≤ 9000)
    (h : ∀ (i : Nat) (d : α), xs[i]? = some d → ∃ S ρ2, TgD g S (gd d) (wipeE ρ vs) ρ2 ∧ (∀ j ∈ S, j ∈ vs) ∧ EvT tt ρ2 (f d).isSome ∧ ∀ e, f d = some e → Ev te ρ2 e) : EvN (tLc wi g tt te vs) ρ (.list (xs.filterMap f)) := fun B F H σ en Q k =>
  hw B F H σ en _ fun J F1 H1 g1 W D hD => by
    have en1 := en.gw g1
    have hF1 : ∀ a, F1 a → H1 a ≠ none := g1.h
    refine ⟨fun i m H' => m = xs.length - i ∧ i ≤ xs.length ∧ ∃ F' acc, Gw F1 H1 F' H' ∧ ¬ F' D ∧ H' D = some (.lst acc) ∧ Rps F' H' ((xs.take i).filterMap f) acc, ⟨_, rfl, Nat.zero_le _, F1, [], gw_upd hF1 hD, fun c => hF1 D c hD, upd_same, rfl⟩, ?_⟩
    rintro i m H' ⟨rfl, hi, F', acc, g2, nf, hacc, racc⟩
    have en2 := en1.gw g2
    have fr := g2.fr hF1
    by_cases c : i < xs.length
    · refine .inr ⟨W.go i F' H' (by rw [List.length_map]; exact c) fr, fun H2 => ∃ F2 acc2, Gw F1 H1 F2 H2 ∧ ¬ F2 D ∧ H2 D = some (.lst acc2) ∧ Rps F2 H2 ((xs.take (i + 1)).filterMap f) acc2, fun H2 ⟨F2, acc2, a, b, e, r⟩ => ⟨xs.length - (i + 1), by omega, rfl, c, F2, acc2, a, b, e, r⟩, fun x H2 y => ?_⟩
      obtain ⟨F2, d0, g3, hd0, rd⟩ := W.yld i F' H' x H2 (by rw [List.length_map]; exact c) fr en2.fh y
      rw [List.getElem?_map] at hd0
      obtain ⟨d, hd, rfl⟩ := Option.map_eq_some_iff.mp hd0
      obtain ⟨S, ρ2, tg, hS, et, ev⟩ := h i d hd
      have en3 := (en2.gw g3).wipe vs
      refine tg B F2 H2 _ x en3 rd _ fun σ' en4 l4 k4 => ⟨?_, ?_⟩
      · have e := wipe_eq (σ := L2.wipe σ vs) (σ2 := σ') (vs := vs) l4 fun j hj => k4 j fun m => hj (hS j m)
        rw [e]
        exact wipe_eq (wipe_length σ vs) fun j hj => by rw [wipe_get, if_neg (fun c => hj c.1)]
      · refine et B F2 H2 σ' en4 _ fun F3 H3 g4 => ?_
        have nf3 : ¬ F3 D := fun q => by
          rcases g4.n D q with q | q
          · rcases g3.n D q with q | q
            · exact nf q
            · rw [hacc] at q
              cases q
          · rw [g3.s _ _ hacc] at q
            cases q
        have hacc3 := g4.s _ _ (g3.s _ _ hacc)
        have racc3 := (racc.gw g3).gw g4
        cases hf : f d with
        | none =>
          show (if (none : Option _).isSome = true then _ else _)
          rw [if_neg (by decide)]
          refine ⟨F3, acc, (g2.trans g3).trans g4, nf3, hacc3, ?_⟩
          rw [fm_succ hd, hf]
          simpa using racc3
        | some e =>
          show (if (some e : Option _).isSome = true then _ else _)
          rw [if_pos (show (some e : Option _).isSome = true from rfl)]
          refine ev e hf B F3 H3 σ' (en4.gw g4) _ fun w F4 H4 g5 rw' => ?_
          have hacc4 := g5.s _ _ hacc3
          have nf4 : ¬ F4 D := fun q => by
            rcases g5.n D q with q | q
            · exact nf3 q
            · rw [hacc3] at q
              cases q
          refine ⟨acc, hacc4, big_lt ?_, ?_⟩
          · rw [racc3.len]
            have := List.length_filterMap_le f (xs.take i)
            rw [List.length_take] at this
            omega
          · have g' := ((g2.trans g3).trans g4).trans g5
            refine ⟨F4, acc ++ [w], ⟨g'.f, fun b o hb => ?_, g'.n, fun a ha => ?_⟩, nf4, upd_same, ?_⟩
            · rw [upd_ne (ne_of_none hb hD)]
              exact g'.s b o hb
            · have c : a ≠ D := fun z => nf4 (by rw [← z]; exact ha)
              rw [upd_ne c]
              exact g'.h a ha
            · rw [fm_succ hd, hf]
              exact Rps.mo (mo_write nf4) _ _ ((racc3.gw g5).append (Rps.one rw'))
    · have e : i = xs.length := by omega
      subst e
      refine .inl ⟨by have := W.stop F' H' fr; rw [List.length_map] at this; exact this, ?_⟩
      rw [List.take_length] at racc
      exact k D F' H' (g1.s.free hD) (g1.trans g2) nf ⟨acc, hacc, racc⟩
/-- all are kept: f as a plain function -/
theorem et_yes : EvT tYes ρ true := fun B F H σ en Q k => k F H (Gw.refl en.fh)
end

/-! ### calls -/
/-- a def's promise by its data: where Pre holds of the arguments, one of R is handed back, nothing tracked is changed -/
def Ct (Pre : List D → Prop) (R : List D → D → Prop) : Sp := fun vs H Q _ => ∃ (F : FS) (ds : List D), (∀ a, F a → H a ≠ none) ∧ Rps F H ds vs ∧ Pre ds ∧ ∀ v F' H' d, R ds d → Gw F H F' H' → Rp F' H' d v → Q v H'
/-- .. a new list or dict that nobody holds is handed back -/
def CtN (Pre : List D → Prop) (R : List D → D → Prop) : Sp := fun vs H Q _ => ∃ (F : FS) (ds : List D), (∀ a, F a → H a ≠ none) ∧ Rps F H ds vs ∧ Pre ds ∧ ∀ p F' H' d, R ds d → H p = none → Gw F H F' H' → ¬ F' p → MutC F' H' d p → Q (.ref p) H'
/-- the def named x keeps the promise sp -/
def Cal (P : Program) (w : World) (K : PySem.W.Frag) (mg : Str → Option Value) (base : Heap) (x : Str) (ps : List Str) (k : Nat) (sp : Sp) : Prop :=
  ∃ f fd, mg x = some (.ref f) ∧ PySem.W.keepIn K (.ref f) = true ∧ Binds K fd ps [] ∧ FnOk P w K mg base CX0 k f fd ps sp
theorem pe_callC {X : Cx} {x : Str} {e : Expr} {es : List Expr} {p pos : Pos} {ps : List Str} {k : Nat} {sp : Sp} {t : TA} (n : Nat) (C : Cal X.prog X.w X.K X.mg X.base x ps k sp) (hr : Room n X.A) (ha : PA X (e :: es) t) (hk : k ≤ n := by decide) (hg : Gl X x := by rfl)
    (hdb : (x == ("__debug__" : Str)) = false := by decide) (he : starEach (e :: es) X.env = (false, eval e X.env) :: starEach es X.env := by rfl) (hpl : (backTo pos (starEach es X.env)).any (·.1) = false := by rfl) :
    PE X (.Call (.Name x p) (e :: es) [] pos) (tCall sp [] E0 t) := by
  obtain ⟨f, fd, hm, kp, hb, F⟩ := C
  exact pe_call F (hr.mono hk) hg hm kp hb .nil pass0 ha hdb he hpl
section
variable {ρ : Ro} {ta : TA} {ds : List D} {Pre : List D → Prop} {R : List D → D → Prop} {E : XK}
theorem evp_call (h : EvA ta ρ ds) (p : Pre ds) : EvP (tCall (Ct Pre R) [] E ta) ρ (R ds) := fun B F H σ en Q k =>
  h B F H σ en _ fun vs F1 H1 g1 r1 => ⟨F1, ds, g1.h, by rw [List.append_nil]; exact r1, p, fun v F' H' d hd g r => k d v F' H' hd (g1.trans g) r⟩
theorem ev_call {d : D} (h : EvA ta ρ ds) (p : Pre ds) (hR : ∀ d', R ds d' → d' = d) : Ev (tCall (Ct Pre R) [] E ta) ρ d := ((evp_call (E := E) h p).to hR).ev
theorem en_call {d : D} (h : EvA ta ρ ds) (p : Pre ds) (hR : ∀ d', R ds d' → d' = d) : EvN (tCall (CtN Pre R) [] E ta) ρ d := fun B F H σ en Q k =>
  h B F H σ en _ fun vs F1 H1 g1 r1 => ⟨F1, ds, g1.h, by rw [List.append_nil]; exact r1, p, fun p F' H' d' hd hp g nf m => k p F' H' (g1.s.free hp) (g1.trans g) nf (hR d' hd ▸ m)⟩
end
/-- the environment at a def's entry -/
def ro (N : List Str) (ds : List D) : Ro := ds.map Ent.im ++ List.replicate (N.length - ds.length) Ent.no
theorem env_start {F : FS} {H : Hp} {N : List Str} {ds : List D} {vs : List V} (hF : ∀ a, F a → H a ≠ none) (r : Rps F H ds vs) : EnvR ⟨F, H⟩ F H (L2.start N vs) (ro N ds) := by
  have hl := r.len
  have split : ∀ (i : Nat) (e : Ent), (ro N ds)[i]? = some e → e = Ent.no ∨ ∃ d, e = Ent.im d ∧ ds[i]? = some d := fun i e h => by
    unfold ro at h
    by_cases c : i < ds.length
    · rw [List.getElem?_append_left (by rw [List.length_map]; exact c), List.getElem?_map] at h
      obtain ⟨d, hd, e'⟩ := Option.map_eq_some_iff.mp h
      exact .inr ⟨d, e'.symm, hd⟩
    · rw [List.getElem?_append_right (by rw [List.length_map]; omega)] at h
      have := List.mem_of_getElem? h
      exact .inl (List.eq_of_mem_replicate this)
  refine ⟨?_, fun i d h => ?_, fun i d h => ?_, fun i j d e p h => ?_, fun i a kds h => ?_, fun i a h => ?_, hF, fun _ h => h, Same.refl H, fun _ h => .inl h⟩
  · unfold L2.start ro
    simp [hl]
  · rcases split i _ h with c | ⟨d', c, hd⟩
    · cases c
    · cases c
      obtain ⟨v, hv, rv⟩ := r.get hd
      refine ⟨v, ?_, rv⟩
      unfold L2.start
      have li : i < vs.length := (List.getElem?_eq_some_iff.mp hv).1
      rw [List.getElem?_append_left (by rw [List.length_map]; exact li), List.getElem?_map, hv]
      rfl
  · rcases split i _ h with c | ⟨d', c, hd⟩ <;> cases c
  · rcases split i _ h with c | ⟨d', c, hd⟩ <;> cases c
  · rcases split i _ h with c | ⟨d', c, hd⟩ <;> cases c
  · rcases split i _ h with c | ⟨d', c, hd⟩ <;> cases c
/-- THE RULE for a def: its body as a term of rules, and what the body's reading does to the data -/
theorem ok_data {P : Program} {w : World} {K : PySem.W.Frag} {mg : Str → Option Value} {base : Heap} {x qual : Str} {st : Stmt} {f : Addr} {fd : FuncData} {N ps : List Str} {k : Nat} {Pre : List D → Prop} {R : List D → D → Prop}
    (F : Fun K x qual st f fd) (S : FnScope N ps (defScope st)) (len : ∀ ds, Pre ds → ds.length = ps.length)
    (body : ∀ (cdv : Value) (A : Around) (outer : List Env) (s : Shared) (H : Hp) (E : XK), Room k (A.deeper (envOfC qual (defScope st) s.heap.objs.size f cdv)) →
      ∃ t, PSs (cxOf CX0 P w K mg base N qual (defScope st) f cdv A outer s H E).nox (defBody st) t ∧ ∀ ds, Pre ds → Sw t (ro N ds) { nx := fun _ => R ds .none, rt := R ds }) :
    FnOk P w K mg base CX0 (k + 1) f fd ps (Ct Pre R) := by
  refine F.ok S (fun vs H Q E h => ?_) (fun cdv A outer s H vs Q E hr h => ?_)
  · obtain ⟨FF, ds, _, r, p, _⟩ := h
    rw [r.len]
    exact len ds p
  · obtain ⟨FF, ds, hF, r, p, q⟩ := h
    obtain ⟨t, pt, sw⟩ := body cdv A outer s H E hr
    refine ⟨t, pt, sw ds p ⟨FF, H⟩ FF H (L2.start N vs) (env_start hF r) _ (fun ρ' F' H' σ' a b c => ?_) (fun d v F' H' a b c => q v F' H' d a b (by simpa [RetD] using c)) (fun _ _ _ _ a => a.elim) fun _ _ _ _ a => a.elim⟩
    exact q .non F' H' .none a b.ex rfl

theorem ok_dataN {P : Program} {w : World} {K : PySem.W.Frag} {mg : Str → Option Value} {base : Heap} {x qual : Str} {st : Stmt} {f : Addr} {fd : FuncData} {N ps : List Str} {k : Nat} {Pre : List D → Prop} {R : List D → D → Prop}
    (F : Fun K x qual st f fd) (S : FnScope N ps (defScope st)) (len : ∀ ds, Pre ds → ds.length = ps.length)
    (body : ∀ (cdv : Value) (A : Around) (outer : List Env) (s : Shared) (H : Hp) (E : XK), Room k (A.deeper (envOfC qual (defScope st) s.heap.objs.size f cdv)) →
      ∃ t, PSs (cxOf CX0 P w K mg base N qual (defScope st) f cdv A outer s H E).nox (defBody st) t ∧ ∀ ds, Pre ds → Sw t (ro N ds) { nx := fun _ => False, rt := R ds, own := true }) :
    FnOk P w K mg base CX0 (k + 1) f fd ps (CtN Pre R) := by
  refine F.ok S (fun vs H Q E h => ?_) (fun cdv A outer s H vs Q E hr h => ?_)
  · obtain ⟨FF, ds, _, r, p, _⟩ := h
    rw [r.len]
    exact len ds p
  · obtain ⟨FF, ds, hF, r, p, q⟩ := h
    obtain ⟨t, pt, sw⟩ := body cdv A outer s H E hr
    refine ⟨t, pt, sw ds p ⟨FF, H⟩ FF H (L2.start N vs) (env_start hF r) _ (fun ρ' F' H' σ' a b c => a.elim) (fun d v F' H' a b c => ?_) (fun _ _ _ _ a => a.elim) fun _ _ _ _ a => a.elim⟩
    obtain ⟨b', rfl, nf, nb, m⟩ : ∃ p, v = V.ref p ∧ ¬ F' p ∧ H p = none ∧ MutC F' H' d p := by simpa [RetD] using c
    exact q b' F' H' d a nb b nf m

/-! ### more of values -/
section
variable {ρ : Ro} {te ta tb : TE} {d e f : D} {ds : List D} {K : PySem.W.Frag}
theorem ev_lenL (h : Ev te ρ (.list ds)) : Ev (tCB (fun xs H Q => ∃ p ys, xs = [.ref p] ∧ (SqL K H p ys ∨ SqT K H p ys) ∧ Q (.int ys.length) H) (tCons te tNil)) ρ (.int (ds.length : Int)) := fun B F H σ en Q k =>
  h B F H σ en _ fun v F1 H1 g1 r1 => by
    obtain ⟨a, xs, rfl, fa, ha, r⟩ := r1
    refine ⟨a, xs, rfl, .inl (SqL.of ha), k _ F1 H1 g1 ?_⟩
    show V.int _ = V.int _
    rw [r.len]
theorem ev_lenT (h : Ev te ρ (.tuple ds)) : Ev (tCB (fun xs H Q => ∃ p ys, xs = [.ref p] ∧ (SqL K H p ys ∨ SqT K H p ys) ∧ Q (.int ys.length) H) (tCons te tNil)) ρ (.int (ds.length : Int)) := fun B F H σ en Q k =>
  h B F H σ en _ fun v F1 H1 g1 r1 => by
    obtain ⟨a, xs, rfl, fa, ha, r⟩ := r1
    refine ⟨a, xs, rfl, .inr (SqT.of ha), k _ F1 H1 g1 ?_⟩
    show V.int _ = V.int _
    rw [r.len]
theorem ev_lenS {z : Str} (h : Ev te ρ (.str z)) (hl : z.length ≤ 10000) : Ev (tCB (fun xs H Q => ∃ z, xs = [.str z] ∧ z.length ≤ sizeLine ∧ Q (.int z.length) H) (tCons te tNil)) ρ (.int (z.length : Int)) := fun B F H σ en Q k =>
  h B F H σ en _ fun v F1 H1 g1 r1 => by
    have r1 : v = .str z := r1
    subst r1
    exact ⟨z, rfl, big_ok hl, k _ F1 H1 g1 rfl⟩
/-! isinstance -/
def tyD : D → String
  | .none => "NoneType" | .bool _ => "bool" | .int _ => "int" | .str _ => "str" | .list _ => "list" | .tuple _ => "tuple" | .dict _ => "dict" | .dictT _ => "dict"
theorem ty_of {F : FS} {H : Hp} : ∀ {d : D} {v : V}, Rp F H d v → TyX K H v (.type (tyD d))
  | .none, v, h => by cases (show v = .non from h); exact .base .non
  | .bool b, v, h => by cases (show v = .bl b from h); exact .base (.bl b)
  | .int b, v, h => by cases (show v = .int b from h); exact .base (.int b)
  | .str b, v, h => by cases (show v = .str b from h); exact .base (.str b)
  | .list _, v, h => by obtain ⟨a, xs, rfl, _, ha, _⟩ := h; exact .base (.lst ha)
  | .tuple _, v, h => by obtain ⟨a, xs, rfl, _, ha, _⟩ := h; exact .base (.tup ha)
  | .dict _, v, h => by obtain ⟨a, xs, rfl, _, ha, _⟩ := h; exact .base (.dK ha)
  | .dictT _, v, h => by obtain ⟨a, xs, rfl, _, ha, _⟩ := h; exact .base (.dT ha)
theorem ev_isi {T : String} {b : Bool} (h : Ev te ρ d) (hk : kitB (tyD d) T = some b) : Ev (tCB (rIsi K) (tCons te (tCons (tC (.ty T)) tNil))) ρ (.bool b) := fun B F H σ en Q k =>
  h B F H σ en _ fun v F1 H1 g1 r1 => ⟨v, .ty T, _, .type T, b, rfl, .ty T, ty_of r1, kit_ty hk, k _ F1 H1 g1 rfl⟩

/-! equality and containment at any depth -/
mutual
def toPy : D → PyData
  | .none => .none
  | .bool b => .bool b
  | .int i => .int i
  | .str s => .str s
  | .list ds => .list (toPys ds)
  | .tuple ds => .tuple (toPys ds)
  | .dict _ => .dict []
  | .dictT _ => .dict []
def toPys : List D → List PyData
  | [] => []
  | d :: ds => toPy d :: toPys ds
end
mutual
theorem rp_dp {F : FS} {H : Hp} : ∀ (d : D) (v : V), (toPy d).canLay0 = true → Rp F H d v → Dp K H v (toPy d)
  | .none, v, _, h => by cases (show v = .non from h); exact .non
  | .bool b, v, _, h => by cases (show v = .bl b from h); exact .bl b
  | .int b, v, _, h => by cases (show v = .int b from h); exact .int b
  | .str b, v, _, h => by cases (show v = .str b from h); exact .str b
  | .list ds, v, c, h => by
    obtain ⟨a, xs, rfl, _, ha, r⟩ := h
    exact .lst (SqL.of ha) (rps_dp ds xs (by simpa [toPy, PyData.canLay0] using c) r)
  | .tuple ds, v, c, h => by
    obtain ⟨a, xs, rfl, _, ha, r⟩ := h
    exact .tup (SqT.of ha) (rps_dp ds xs (by simpa [toPy, PyData.canLay0] using c) r)
  | .dict _, v, c, _ => by simp [toPy, PyData.canLay0] at c
  | .dictT _, v, c, _ => by simp [toPy, PyData.canLay0] at c
theorem rps_dp {F : FS} {H : Hp} : ∀ (ds : List D) (vs : List V), PyData.canLayAll0 (toPys ds) = true → Rps F H ds vs → DpAll K H vs (toPys ds)
  | [], vs, _, h => by cases (show vs = [] from h); exact .nil
  | d :: ds, vs, c, h => by
    obtain ⟨v, ws, rfl, p, q⟩ := h
    have c : (toPy d).canLay0 = true ∧ PyData.canLayAll0 (toPys ds) = true := by simpa [toPys, PyData.canLayAll0] using c
    exact .cons (rp_dp d v c.1 p) (rps_dp ds ws c.2 q)
end
/-- data that may be compared -/
def okD (d : D) : Bool := SeqAt.shaped (toPy d)
theorem okD_dp {F : FS} {H : Hp} {v : V} (h : okD d = true) (r : Rp F H d v) : Dp K H v (toPy d) := rp_dp d v (SeqAt.canLay_of_shaped h) r
theorem rv_eqD (h1 : okD d = true) (h2 : okD e = true) : RvD (rEqD K) d e (.bool (PyData.eqv (toPy d) (toPy e))) := fun F H x y Q hF hx hy k =>
  ⟨toPy d, toPy e, okD_dp h1 hx, okD_dp h2 hy, h1, h2, k _ F H (Gw.refl hF) rfl⟩
theorem rv_neD (h1 : okD d = true) (h2 : okD e = true) : RvD (rNeD K) d e (.bool (!PyData.eqv (toPy d) (toPy e))) := fun F H x y Q hF hx hy k =>
  ⟨toPy d, toPy e, okD_dp h1 hx, okD_dp h2 hy, h1, h2, k _ F H (Gw.refl hF) rfl⟩
theorem rv_inD (h1 : okD d = true) (h2 : okD (.list ds) = true) : RvD (rInD K) d (.list ds) (.bool ((toPys ds).any fun z => PyData.eqv z (toPy d))) := fun F H x y Q hF hx hy k =>
  ⟨toPy d, toPys ds, okD_dp h1 hx, okD_dp (d := .list ds) h2 hy, h1, h2, k _ F H (Gw.refl hF) rfl⟩
theorem rv_isN {a : D} : RvD (fun x y H Q => y = .non ∧ Q (.bl (!decide (x = .non))) H) a .none (.bool (match a with | .none => false | _ => true)) := fun F H x y Q hF hx hy k => by
  have hy : y = .non := hy
  refine ⟨hy, k _ F H (Gw.refl hF) ?_⟩
  cases a with
  | none => cases (show x = .non from hx); rfl
  | bool b => cases (show x = .bl b from hx); rfl
  | int b => cases (show x = .int b from hx); rfl
  | str b => cases (show x = .str b from hx); rfl
  | list b => obtain ⟨a, xs, rfl, _⟩ := hx; rfl
  | tuple b => obtain ⟨a, xs, rfl, _⟩ := hx; rfl
  | dict b => obtain ⟨a, xs, rfl, _⟩ := hx; rfl
  | dictT b => obtain ⟨a, xs, rfl, _⟩ := hx; rfl
/-! xs.index(i), whole numbers -/
theorem ev_index {ns : List Int} {i : Int} (ha : Ev ta ρ (.list (ns.map D.int))) (hb : Ev tb ρ (.int i)) (hm : i ∈ ns) : Ev (tBM K "list" (rIndex K) ta (tCons tb tNil)) ρ (.int ((ns.idxOf i : Nat) : Int)) := fun B F H σ en Q k =>
  ha B F H σ en _ fun v F1 H1 g1 r1 => by
    obtain ⟨a, xs, rfl, fa, hxa, r⟩ := r1
    have e := r.ints
    subst e
    refine ⟨.inl ⟨rfl, _, SqL.of hxa⟩, hb B F1 H1 σ (en.gw g1) _ fun y F2 H2 g2 r2 => ?_⟩
    have r2 : y = .int i := r2
    subst r2
    have hl := List.idxOf_lt_length_iff.mpr hm
    have hat : ns[ns.idxOf i]? = some i := by rw [List.getElem?_eq_getElem hl, List.getElem_idxOf hl]
    refine ⟨a, _, .int i, ns.idxOf i, .int i, rfl, rfl, SqL.of (g2.s _ _ hxa), rfl, flat_ints ns, by rw [List.getElem?_map, hat]; rfl, by show (i == i) = true; exact beq_self_eq_true i, fun m z' hlt hz => ?_, k _ F2 H2 (g1.trans g2) rfl⟩
    rw [List.getElem?_map] at hz
    obtain ⟨j, hj, rfl⟩ := Option.map_eq_some_iff.mp hz
    show (j == i) = false
    rw [beq_eq_false_iff_ne]
    intro c
    subst c
    obtain ⟨hlm, ej⟩ := List.getElem?_eq_some_iff.mp hj
    have hne := List.not_of_lt_findIdx (p := (· == j)) (xs := ns) (i := m) hlt
    rw [ej] at hne
    simp at hne
/-! list(xs), tuple(xs) -/
theorem en_list (h : Ev te ρ (.list ds)) : EvN (tCB (fun xs H Q => ∃ p ys, xs = [.ref p] ∧ (SqL K H p ys ∨ SqT K H p ys) ∧ ∀ l, H l = none → Q (.ref l) (upd H l (.lst ys))) (tCons te tNil)) ρ (.list ds) := fun B F H σ en Q k =>
  h B F H σ en _ fun v F1 H1 g1 r1 => by
    obtain ⟨a, xs, rfl, fa, ha, r⟩ := r1
    exact ⟨a, xs, rfl, .inl (SqL.of ha), fun l hl => k l F1 _ (g1.s.free hl) (g1.trans (gw_upd g1.h hl)) (fun c => g1.h l c hl) ⟨xs, upd_same, r.gw (gw_upd g1.h hl)⟩⟩
end
end Tk

set_option Elab.async false
set_option linter.all false
set_option maxRecDepth 100000
set_option maxHeartbeats 1000000
/-! Tk5: for over a dict's keys, the dict locked meanwhile. -/
namespace Tk
open PySem PySem.Spec PyProof.Rows L2

mutual
/-- no dict with plain keys within -/
def noDk : D → Bool
  | .list ds => noDks ds
  | .tuple ds => noDks ds
  | .dict _ => false
  | .dictT kds => noDkT kds
  | _ => true
def noDks : List D → Bool
  | [] => true
  | d :: ds => noDk d && noDks ds
def noDkT : List (List Key × D) → Bool
  | [] => true
  | (_, d) :: ds => noDk d && noDkT ds
end
def noDkK : List (Key × D) → Bool
  | [] => true
  | (_, d) :: ds => noDk d && noDkK ds
/-- of an own object its content -/
def noDkM : D → Bool
  | .dict kds => noDkK kds
  | d => noDk d
def notAt (F : FS) (a : Addr) : FS := fun b => F b ∧ b ≠ a
mutual
theorem Rp.at {F : FS} {H : Hp} {a : Addr} {kvs : List (Key × V)} {o : HO} (ha : H a = some (.dK kvs)) : ∀ (d : D) (v : V), noDk d = true → Rp F H d v → Rp (notAt F a) (upd H a o) d v
  | .none, _, _, h => h
  | .bool _, _, _, h => h
  | .int _, _, _, h => h
  | .str _, _, _, h => h
  | .list ds, v, c, h => by
    obtain ⟨b, xs, e, f, hb, r⟩ := h
    have ne : b ≠ a := fun z => by rw [z, ha] at hb; cases hb
    exact ⟨b, xs, e, ⟨f, ne⟩, by rw [upd_ne ne]; exact hb, Rps.atD ha ds xs (by simpa [noDk] using c) r⟩
  | .tuple ds, v, c, h => by
    obtain ⟨b, xs, e, f, hb, r⟩ := h
    have ne : b ≠ a := fun z => by rw [z, ha] at hb; cases hb
    exact ⟨b, xs, e, ⟨f, ne⟩, by rw [upd_ne ne]; exact hb, Rps.atD ha ds xs (by simpa [noDk] using c) r⟩
  | .dict _, _, c, _ => by simp [noDk] at c
  | .dictT kds, v, c, h => by
    obtain ⟨b, xs, e, f, hb, r⟩ := h
    have ne : b ≠ a := fun z => by rw [z, ha] at hb; cases hb
    exact ⟨b, xs, e, ⟨f, ne⟩, by rw [upd_ne ne]; exact hb, RpT.at ha kds xs (by simpa [noDk] using c) r⟩
theorem Rps.atD {F : FS} {H : Hp} {a : Addr} {kvs : List (Key × V)} {o : HO} (ha : H a = some (.dK kvs)) : ∀ (ds : List D) (vs : List V), noDks ds = true → Rps F H ds vs → Rps (notAt F a) (upd H a o) ds vs
  | [], _, _, h => h
  | d :: ds, vs, c, h => by
    obtain ⟨v, ws, e, p, q⟩ := h
    have c : noDk d = true ∧ noDks ds = true := by simpa [noDks] using c
    exact ⟨v, ws, e, Rp.at ha d v c.1 p, Rps.atD ha ds ws c.2 q⟩
theorem RpT.at {F : FS} {H : Hp} {a : Addr} {kvs : List (Key × V)} {o : HO} (ha : H a = some (.dK kvs)) : ∀ (ds : List (List Key × D)) (vs : List (List Key × V)), noDkT ds = true → RpT F H ds vs → RpT (notAt F a) (upd H a o) ds vs
  | [], _, _, h => h
  | (k, d) :: ds, vs, c, h => by
    obtain ⟨v, ws, e, p, q⟩ := h
    have c : noDk d = true ∧ noDkT ds = true := by simpa [noDkT] using c
    exact ⟨v, ws, e, Rp.at ha d v c.1 p, RpT.at ha ds ws c.2 q⟩
end
theorem RpK.at {F : FS} {H : Hp} {a : Addr} {kvs : List (Key × V)} {o : HO} (ha : H a = some (.dK kvs)) : ∀ (ds : List (Key × D)) (vs : List (Key × V)), noDkK ds = true → RpK F H ds vs → RpK (notAt F a) (upd H a o) ds vs
  | [], _, _, h => h
  | (k, d) :: ds, vs, c, h => by
    obtain ⟨v, ws, e, p, q⟩ := h
    have c : noDk d = true ∧ noDkK ds = true := by simpa [noDkK] using c
    exact ⟨v, ws, e, Rp.at ha d v c.1 p, RpK.at ha ds ws c.2 q⟩
theorem MutC.atL {F : FS} {H : Hp} {a p : Addr} {kvs : List (Key × V)} {o : HO} (ha : H a = some (.dK kvs)) (ne : p ≠ a) : ∀ {d : D}, noDkM d = true → MutC F H d p → MutC (notAt F a) (upd H a o) d p
  | .list ds, c, h => by
    obtain ⟨xs, z, q⟩ := h
    exact ⟨xs, by rw [upd_ne ne]; exact z, Rps.atD ha ds xs (by simpa [noDkM, noDk] using c) q⟩
  | .dict kds, c, h => by
    obtain ⟨xs, z, q⟩ := h
    exact ⟨xs, by rw [upd_ne ne]; exact z, RpK.at ha kds xs (by simpa [noDkM] using c) q⟩
  | .dictT kds, c, h => by
    obtain ⟨xs, z, q⟩ := h
    exact ⟨xs, by rw [upd_ne ne]; exact z, RpT.at ha kds xs (by simpa [noDkM, noDk] using c) q⟩
  | .none, _, h => h.elim
  | .bool _, _, h => h.elim
  | .int _, _, h => h.elim
  | .str _, _, h => h.elim
  | .tuple _, _, h => h.elim
def keyOf : Key → D
  | .inl i => .int i
  | .inr s => .str s
/-- what is known of the other slots -/
structure Others (ρ : Ro) (i : Nat) : Prop where
  im : ∀ (j : Nat) (d : D), ρ[j]? = some (Ent.im d) → j ≠ i → noDk d = true
  mu : ∀ (j : Nat) (d : D), ρ[j]? = some (Ent.mu d) → noDkM d = true
  lk : ∀ (j : Nat) (a : Addr) (kds : List (Key × D)), ρ[j]? ≠ some (Ent.lk a kds)
theorem sw_forK (vs : List Nat) {t : TS} {g : TG} {Φ : Po} {ρ : Ro} {i : Nat} {kds : List (Key × D)} (hi : ρ[i]? = some (Ent.im (.dict kds))) (ho : Others ρ i) (hk : noDkK kds = true) (I : Addr → Nat → Ro → Prop)
    (h0 : ∀ a, I a 0 (wipeE (ρ.set i (Ent.lk a kds)) vs)) (hlk : ∀ a n ρ', I a n ρ' → ρ'[i]? = some (Ent.lk a kds) ∧ ∀ (j : Nat) (b : Addr) (kd : List (Key × D)), ρ'[j]? = some (Ent.lk b kd) → i = j)
    (hs : ∀ (a : Addr) (n : Nat) (kd : Key × D) ρ', kds[n]? = some kd → I a n ρ' → ∃ S ρ2, TgD g S (keyOf kd.1) ρ' ρ2 ∧ Sw t ρ2 { nx := fun ρ3 => I a (n + 1) (wipeE ρ3 vs), rt := fun d => Φ.own = false ∧ Φ.rt d, ct := fun ρ3 => I a (n + 1) (wipeE ρ3 vs), bk := fun _ => False })
    (hd : ∀ a ρ', I a kds.length ρ' → Φ.nx (ρ'.set i (Ent.im (.dict kds)))) : Sw (tLock (tFor (iKeys (tVar i)) g t)) ρ Φ := fun B F H σ en Dn kn kr kb kc => by
  obtain ⟨v, hv, a, kvs, rfl, fa, ha, r⟩ := en.im i _ hi
  have hil : i < ρ.length := (List.getElem?_eq_some_iff.mp hi).1
  refine ⟨a, .dK kvs, ha, True.intro, fun od => ?_⟩
  generalize hu : HO.frz od (HO.dK kvs) = u
  -- the base, the dict locked
  have hBa : ∀ o, B.H a = some o → o = .dK kvs := fun o h => by
    have := en.bs a o h
    rw [ha] at this
    exact (Option.some.inj this).symm
  have enl : EnvR ⟨notAt B.F a, upd B.H a u⟩ (notAt F a) (upd H a u) σ (ρ.set i (Ent.lk a kds)) := by
    refine ⟨by rw [List.length_set, en.len], fun j d h => ?_, fun j d h => ?_, fun j k d1 d2 p h1 h2 h3 h4 => ?_, fun j b kd h => ?_, fun j b h => ?_, fun b f => ?_, fun b f => ⟨en.bf b f.1, f.2⟩, fun b o h => ?_, fun b f => ?_⟩
    · by_cases c : i = j
      · subst c
        exact nomatch (get_set_self h).1
      · rw [List.getElem?_set_ne c] at h
        obtain ⟨w, hw, rw'⟩ := en.im j d h
        exact ⟨w, hw, Rp.at ha d w (ho.im j d h (Ne.symm c)) rw'⟩
    · by_cases c : i = j
      · subst c
        exact nomatch (get_set_self h).1
      · rw [List.getElem?_set_ne c] at h
        obtain ⟨p, hp, nf, nb, m⟩ := en.mu j d h
        have ne : p ≠ a := fun z => nf (z ▸ fa)
        exact ⟨p, hp, fun z => nf z.1, by show upd B.H a u p = none; rw [upd_ne ne]; exact nb, m.atL ha ne (ho.mu j d h)⟩
    · by_cases c : i = j
      · subst c
        exact nomatch (get_set_self h1).1
      · by_cases c2 : i = k
        · subst c2
          exact nomatch (get_set_self h2).1
        · rw [List.getElem?_set_ne c] at h1
          rw [List.getElem?_set_ne c2] at h2
          exact en.dis j k d1 d2 p h1 h2 h3 h4
    · by_cases c : i = j
      · subst c
        obtain ⟨q, _⟩ := get_set_self h
        cases q
        exact ⟨od, kvs, hv, by rw [upd_same, ← hu], RpK.at ha kds kvs hk r⟩
      · rw [List.getElem?_set_ne c] at h
        exact absurd h (ho.lk j b kd)
    · by_cases c : i = j
      · subst c
        exact nomatch (get_set_self h).1
      · rw [List.getElem?_set_ne c] at h
        exact en.pt j b h
    · rw [upd_ne f.2]
      exact en.fh b f.1
    · show upd H a u b = some o
      by_cases c : b = a
      · subst c
        have h : upd B.H b u b = some o := h
        rw [upd_same] at h ⊢
        exact h
      · have h : upd B.H a u b = some o := h
        rw [upd_ne c] at h ⊢
        exact en.bs b o h
    · rcases en.bn b f.1 with q | q
      · exact .inl ⟨q, f.2⟩
      · right
        show upd B.H a u b = none
        rw [upd_ne f.2]
        exact q
  -- behind the loop, the dict unlocked
  have back : ∀ F' H', Gw (notAt B.F a) (upd B.H a u) F' H' → H' a = some u ∧ ¬ F' a := fun F' H' g => by
    refine ⟨g.s a u upd_same, fun f => ?_⟩
    rcases g.n a f with q | q
    · exact q.2 rfl
    · rw [upd_same] at q
      cases q
  have gwU : ∀ F' H', Gw (notAt B.F a) (upd B.H a u) F' H' → Gw B.F B.H (addF F' a) (upd H' a (.dK kvs)) := fun F' H' g => by
    obtain ⟨h1, h2⟩ := back F' H' g
    refine ⟨fun b f => ?_, fun b o h => ?_, fun b f => ?_, fun b f => ?_⟩
    · by_cases c : b = a
      · exact .inr c
      · exact .inl (g.f b ⟨f, c⟩)
    · by_cases c : b = a
      · subst c
        rw [upd_same, hBa o h]
      · rw [upd_ne c]
        exact g.s b o (by rw [upd_ne c]; exact h)
    · rcases f with f | f
      · rcases g.n b f with q | q
        · exact .inl q.1
        · have c : b ≠ a := fun z => h2 (z ▸ f)
          rw [upd_ne c] at q
          exact .inr q
      · rw [f]
        exact en.bn a fa
    · by_cases c : b = a
      · rw [c, upd_same]
        exact fun z => nomatch z
      · rw [upd_ne c]
        rcases f with f | f
        · exact g.h b f
        · exact absurd f c
  have moU : ∀ F' H', Gw (notAt B.F a) (upd B.H a u) F' H' → Mo F' H' (addF F' a) (upd H' a (.dK kvs)) := fun F' H' g =>
    ⟨fun b f => .inl f, fun b o f h => by
      have c : b ≠ a := fun z => (back F' H' g).2 (by rw [← z]; exact f)
      rw [upd_ne c]
      exact h⟩
  have frU : ∀ F' H', Gw (notAt B.F a) (upd B.H a u) F' H' → Fr (notAt F a) (upd H a u) F' H' → Fr F H (addF F' a) (upd H' a (.dK kvs)) := fun F' H' g fr =>
    ⟨fun b f => by
      by_cases c : b = a
      · exact .inr c
      · exact .inl (fr.f b ⟨f, c⟩), fun b f => by
      by_cases c : b = a
      · rw [c, upd_same, ha]
      · rw [upd_ne c, fr.e b ⟨f, c⟩, upd_ne c]⟩
  have enU : ∀ F' H' σ' ρ' n, EnvR ⟨notAt B.F a, upd B.H a u⟩ F' H' σ' ρ' → I a n ρ' → EnvR B (addF F' a) (upd H' a (.dK kvs)) σ' (ρ'.set i (Ent.im (.dict kds))) := fun F' H' σ' ρ' n e inv => by
    have g := e.ex
    obtain ⟨h1, h2⟩ := back F' H' g
    have mo := moU F' H' g
    have gu := gwU F' H' g
    obtain ⟨o', kvs', hσ, hH, rk⟩ := e.lk i a kds (hlk a n ρ' inv).1
    rw [h1, ← hu] at hH
    cases hH
    have ne : ∀ b, F' b → b ≠ a := fun b f z => h2 (z ▸ f)
    refine ⟨by rw [List.length_set, e.len], fun j d h => ?_, fun j d h => ?_, fun j k d1 d2 p h1 h2 h3 h4 => ?_, fun j b kd h => ?_, fun j b h => ?_, gu.h, gu.f, gu.s, gu.n⟩
    · by_cases c : i = j
      · subst c
        obtain ⟨q, _⟩ := get_set_self h
        cases q
        exact ⟨_, hσ, a, kvs, rfl, .inr rfl, upd_same, RpK.mo mo _ _ rk⟩
      · rw [List.getElem?_set_ne c] at h
        obtain ⟨w, hw, rw'⟩ := e.im j d h
        exact ⟨w, hw, Rp.mo mo _ _ rw'⟩
    · by_cases c : i = j
      · subst c
        exact nomatch (get_set_self h).1
      · rw [List.getElem?_set_ne c] at h
        obtain ⟨p, hp, nf, nb, m⟩ := e.mu j d h
        have nb : upd B.H a u p = none := nb
        have np : p ≠ a := fun z => by rw [z, upd_same] at nb; cases nb
        rw [upd_ne np] at nb
        exact ⟨p, hp, fun z => z.elim nf np, nb, m.at mo (upd_ne np)⟩
    · by_cases c : i = j
      · subst c
        exact nomatch (get_set_self h1).1
      · by_cases c2 : i = k
        · subst c2
          exact nomatch (get_set_self h2).1
        · rw [List.getElem?_set_ne c] at h1
          rw [List.getElem?_set_ne c2] at h2
          exact e.dis j k d1 d2 p h1 h2 h3 h4
    · by_cases c : i = j
      · subst c
        exact nomatch (get_set_self h).1
      · rw [List.getElem?_set_ne c] at h
        exact absurd ((hlk a n ρ' inv).2 j b kd h) c
    · by_cases c : i = j
      · subst c
        exact nomatch (get_set_self h).1
      · rw [List.getElem?_set_ne c] at h
        exact e.pt j b h
  have hlen := (pk_of r).len
  -- the loop
  refine ⟨.ref a, hv, a, od, rfl, .inl ⟨kvs, by rw [upd_same, ← hu], ?_⟩⟩
  refine ⟨fun n m σ' H' => m = kds.length - n ∧ n ≤ kds.length ∧ ∃ ρ' F', I a n ρ' ∧ EnvR ⟨notAt B.F a, upd B.H a u⟩ F' H' σ' ρ' ∧ Fr (notAt F a) (upd H a u) F' H', ⟨_, rfl, Nat.zero_le _, _, _, h0 a, enl.forget vs, Fr.refl⟩, ?_⟩
  rintro n m σ' H' ⟨rfl, hn, ρ', F', inv, en', fr⟩
  have hHa : H' a = some (.frz od (.dK kvs)) := by rw [(back F' H' en'.ex).1, ← hu]
  by_cases c : n < kds.length
  · refine .inr ⟨⟨hHa, by rw [hlen]; exact c⟩, fun σ2 H2 => ∃ ρ2 F2, I a (n + 1) ρ2 ∧ EnvR ⟨notAt B.F a, upd B.H a u⟩ F2 H2 σ2 ρ2 ∧ Fr (notAt F a) (upd H a u) F2 H2, fun σ2 H2 ⟨ρ2, F2, x, y, z⟩ => ⟨kds.length - (n + 1), by omega, rfl, c, ρ2, F2, x, y, z⟩, fun x H2 y => ?_⟩
    obtain ⟨rfl, k, v, hkv, rfl⟩ := y
    -- the datum of the key
    have key : ∀ (kds : List (Key × D)) (kvs : List (Key × V)) (n : Nat), PK F H kds kvs → kvs[n]? = some (k, v) → ∃ d, kds[n]? = some (k, d) := by
      intro kds
      induction kds with
      | nil =>
        intro kvs n p h
        have p : kvs = [] := p
        rw [p] at h
        simp at h
      | cons q r ih =>
        intro kvs n p h
        obtain ⟨w, ws, rfl, _, p⟩ := p
        cases n with
        | zero =>
          have h : (q.1, w) = (k, v) := by simpa using h
          exact ⟨q.2, by rw [List.getElem?_cons_zero, ← (Prod.mk.inj h).1]⟩
        | succ n => exact ih ws n p (by simpa using h)
    obtain ⟨d, hd'⟩ := key kds kvs n (pk_of r) hkv
    obtain ⟨S, ρ2, tg, sw⟩ := hs a n (k, d) ρ' hd' inv
    have rk : Rp F' H2 (keyOf k) (kV k) := by cases k <;> rfl
    refine tg _ F' H2 σ' (kV k) en' rk _ fun σ3 en3 _ _ => sw _ F' H2 σ3 en3 _ (fun ρ4 F4 H4 σ4 x y z => ⟨_, F4, x, y.forget vs, fr.trans z⟩) (fun d v F4 H4 x y z => ?_) (fun ρ4 F4 H4 σ4 x y z => x.elim) (fun ρ4 F4 H4 σ4 x y z => ⟨_, F4, x, y.forget vs, fr.trans z⟩)
    have z : Rp F4 H4 d v := by simpa [RetD] using z
    exact ⟨(back F4 H4 y).1, kr d v _ _ x.2 (gwU F4 H4 y) (by
      unfold RetD
      rw [x.1]
      exact Rp.mo (moU F4 H4 y) _ _ z)⟩
  · have e : n = kds.length := by omega
    subst e
    refine .inl ⟨⟨hHa, by rw [hlen]; exact Nat.le_refl _⟩, (back F' H' en'.ex).1, ?_⟩
    exact kn _ _ _ _ (hd a ρ' inv) (enU F' H' σ' ρ' _ en' inv) (frU F' H' en'.ex fr)
end Tk

set_option Elab.async false
set_option linter.all false
set_option maxRecDepth 100000
set_option maxHeartbeats 1000000
/-! Tk6: loops over typed data, cuts, equalities of data. -/
namespace Tk
open PySem PySem.Spec PyProof.Rows L2
section
variable {ρ : Ro} {t : TS} {g : TG} {Φ : Po} {wi : TI} {α β : Type}
/-- for over the data of the xs -/
theorem sw_forX (vs : List Nat) (xs : List α) (gd : α → D) (hw : WkD wi ρ (xs.map gd)) (I : Nat → Ro → Prop) (h0 : I 0 (wipeE ρ vs))
    (hs : ∀ (i : Nat) (x : α) ρ', xs[i]? = some x → I i ρ' → ∃ S ρ2, TgD g S (gd x) ρ' ρ2 ∧ Sw t ρ2 { Φ with nx := fun ρ3 => I (i + 1) (wipeE ρ3 vs), ct := fun ρ3 => I (i + 1) (wipeE ρ3 vs), bk := Φ.nx }) (hd : ∀ ρ', I xs.length ρ' → Φ.nx ρ') : Sw (tFor wi g t) ρ Φ :=
  sw_for vs hw I h0 (fun i d ρ' h inv => by
    rw [List.getElem?_map] at h
    obtain ⟨x, hx, rfl⟩ := Option.map_eq_some_iff.mp h
    exact hs i x ρ' hx inv) (fun ρ' inv => hd ρ' (by rw [List.length_map] at inv; exact inv))
/-- for over enumerate of the data of the xs -/
theorem sw_forE (vs : List Nat) (xs : List α) (gd : α → D) (hw : WkD wi ρ (enumD (xs.map gd))) (I : Nat → Ro → Prop) (h0 : I 0 (wipeE ρ vs))
    (hs : ∀ (i : Nat) (x : α) ρ', xs[i]? = some x → I i ρ' → ∃ S ρ2, TgD g S (.tuple [.int (i : Int), gd x]) ρ' ρ2 ∧ Sw t ρ2 { Φ with nx := fun ρ3 => I (i + 1) (wipeE ρ3 vs), ct := fun ρ3 => I (i + 1) (wipeE ρ3 vs), bk := Φ.nx }) (hd : ∀ ρ', I xs.length ρ' → Φ.nx ρ') : Sw (tFor wi g t) ρ Φ :=
  sw_for vs hw I h0 (fun i d ρ' h inv => by
    unfold enumD at h
    rw [List.getElem?_mapIdx, List.getElem?_map] at h
    obtain ⟨y, hy, rfl⟩ := Option.map_eq_some_iff.mp h
    obtain ⟨x, hx, rfl⟩ := Option.map_eq_some_iff.mp hy
    exact hs i x ρ' hx inv) (fun ρ' inv => hd ρ' (by rw [enumD_len, List.length_map] at inv; exact inv))
/-- for over range(n) -/
theorem sw_forN (vs : List Nat) (n : Nat) (hw : WkD wi ρ (upto n)) (I : Nat → Ro → Prop) (h0 : I 0 (wipeE ρ vs))
    (hs : ∀ (i : Nat) ρ', i < n → I i ρ' → ∃ S ρ2, TgD g S (.int (i : Int)) ρ' ρ2 ∧ Sw t ρ2 { Φ with nx := fun ρ3 => I (i + 1) (wipeE ρ3 vs), ct := fun ρ3 => I (i + 1) (wipeE ρ3 vs), bk := Φ.nx }) (hd : ∀ ρ', I n ρ' → Φ.nx ρ') : Sw (tFor wi g t) ρ Φ :=
  sw_for vs hw I h0 (fun i d ρ' h inv => by
    have hi : i < n := by
      have := (List.getElem?_eq_some_iff.mp h).1
      rw [upto_len] at this
      exact this
    rw [upto_get hi] at h
    cases h
    exact hs i ρ' hi inv) (fun ρ' inv => hd ρ' (by rw [upto_len] at inv; exact inv))
end
/-! ### cuts -/
theorem sIx_min {n k : Nat} (d : Nat) : HT.sIx n d (some (k : Int)) = min k n := HT.sIx_nat n d k
theorem cut_take {ds : List D} {k : Nat} : cutD ds none (some (k : Int)) = ds.take k := by
  unfold cutD
  rw [HT.sIx_none, sIx_min, List.drop_zero, Nat.sub_zero]
  by_cases c : k ≤ ds.length
  · rw [Nat.min_eq_left c]
  · rw [Nat.min_eq_right (by omega), List.take_length, List.take_of_length_le (by omega)]
theorem cut_drop {ds : List D} {k : Nat} : cutD ds (some (k : Int)) none = ds.drop k := by
  unfold cutD
  rw [HT.sIx_none, sIx_min]
  by_cases c : k ≤ ds.length
  · rw [Nat.min_eq_left c, List.take_of_length_le (by rw [List.length_drop]; exact Nat.le_refl _)]
  · rw [Nat.min_eq_right (by omega), List.drop_of_length_le (Nat.le_refl _), List.drop_of_length_le (by omega), List.take_nil]
theorem cut_both {ds : List D} {i j : Nat} (hi : i ≤ ds.length) : cutD ds (some (i : Int)) (some (j : Int)) = (ds.drop i).take (j - i) := by
  unfold cutD
  rw [sIx_min, sIx_min, Nat.min_eq_left hi]
  by_cases c : j ≤ ds.length
  · rw [Nat.min_eq_left c]
  · rw [Nat.min_eq_right (by omega), List.take_of_length_le (by rw [List.length_drop]; exact Nat.le_refl _), List.take_of_length_le (by rw [List.length_drop]; omega)]
theorem map_take' {α β : Type} (f : α → β) (l : List α) (n : Nat) : (l.map f).take n = (l.take n).map f := List.map_take.symm
theorem map_drop' {α β : Type} (f : α → β) (l : List α) (n : Nat) : (l.map f).drop n = (l.drop n).map f := List.map_drop.symm
/-! ### data that may be compared; equality of such -/
theorem toPys_map {α : Type} (f : α → D) : ∀ l : List α, toPys (l.map f) = l.map fun x => toPy (f x)
  | [] => rfl
  | x :: l => by rw [List.map_cons, List.map_cons, ← toPys_map f l]; rfl
theorem lay_all {α : Type} (f : α → PyData) : ∀ l : List α, (∀ x ∈ l, (f x).canLay0 = true) → PyData.canLayAll0 (l.map f) = true
  | [], _ => rfl
  | x :: l, h => by
    rw [List.map_cons]
    show ((f x).canLay0 && PyData.canLayAll0 (l.map f)) = true
    rw [h x List.mem_cons_self, lay_all f l fun y hy => h y (List.mem_cons_of_mem _ hy)]
    rfl
theorem dep_all {α : Type} (f : α → PyData) (n : Nat) : ∀ l : List α, (∀ x ∈ l, (f x).depth ≤ n) → PyData.depthAll (l.map f) ≤ n
  | [], _ => Nat.zero_le _
  | x :: l, h => by
    rw [List.map_cons]
    show max (f x).depth (PyData.depthAll (l.map f)) ≤ n
    have h1 := h x List.mem_cons_self
    have h2 := dep_all f n l fun y hy => h y (List.mem_cons_of_mem _ hy)
    omega
/-- of the data of the xs, each that may be laid and at most two deep -/
theorem ok_list {α : Type} {f : α → D} {l : List α} (h : ∀ x ∈ l, (toPy (f x)).canLay0 = true ∧ (toPy (f x)).depth ≤ 2) : okD (.list (l.map f)) = true := by
  unfold okD SeqAt.shaped
  have e : toPy (.list (l.map f)) = .list (l.map fun x => toPy (f x)) := by show PyData.list (toPys _) = _; rw [toPys_map]
  rw [e, Bool.and_eq_true, decide_eq_true_eq]
  refine ⟨lay_all _ l fun x hx => (h x hx).1, ?_⟩
  show PyData.depthAll _ + 1 ≤ 64
  have := dep_all (fun x => toPy (f x)) 2 l fun x hx => (h x hx).2
  omega
theorem ok_tuple {α : Type} {f : α → D} {l : List α} (h : ∀ x ∈ l, (toPy (f x)).canLay0 = true ∧ (toPy (f x)).depth ≤ 2) : okD (.tuple (l.map f)) = true := by
  unfold okD SeqAt.shaped
  have e : toPy (.tuple (l.map f)) = .tuple (l.map fun x => toPy (f x)) := by show PyData.tuple (toPys _) = _; rw [toPys_map]
  rw [e, Bool.and_eq_true, decide_eq_true_eq]
  refine ⟨lay_all _ l fun x hx => (h x hx).1, ?_⟩
  show PyData.depthAll _ + 1 ≤ 64
  have := dep_all (fun x => toPy (f x)) 2 l fun x hx => (h x hx).2
  omega
theorem ok_ints (l : List Int) : okD (.list (l.map D.int)) = true := ok_list fun x _ => ⟨rfl, Nat.zero_le _⟩
theorem eqv_ints : ∀ (a b : List Int), PyData.eqvAll (a.map PyData.int) (b.map PyData.int) = decide (a = b)
  | [], [] => rfl
  | [], _ :: _ => rfl
  | _ :: _, [] => rfl
  | x :: a, y :: b => by
    show ((x == y) && PyData.eqvAll (a.map PyData.int) (b.map PyData.int)) = _
    rw [eqv_ints a b]
    by_cases c : x = y
    · by_cases c2 : a = b
      · simp [c, c2]
      · simp [c, c2]
    · simp [c]
theorem eqvD_ints (a b : List Int) : PyData.eqv (toPy (.list (a.map D.int))) (toPy (.list (b.map D.int))) = decide (a = b) := by
  show PyData.eqvAll (toPys _) (toPys _) = _
  rw [toPys_map, toPys_map]
  exact eqv_ints a b
end Tk

set_option Elab.async false
set_option linter.all false
set_option maxRecDepth 100000
set_option maxHeartbeats 1000000
/-! Ctx: the text by places, what the top leaves of names, defs by their promises. -/
namespace Tk
open PySem PySem.Spec PyProof.Rows L2
def topS (i : Nat) : Stmt := PySem.Challenge.pw_talejudge_k41_whole_as_one_by_one.main.body.getD i (.Pass ⟨0, 0, 0, 0⟩)
/-- the built-in names that the text does not hide, and its constants -/
structure Bt (mg : Str → Option Value) : Prop where
  len_ : mg "len" = none
  isinstance_ : mg "isinstance" = none
  str_ : mg "str" = none
  int_ : mg "int" = none
  bool_ : mg "bool" = none
  tuple_ : mg "tuple" = none
  list_ : mg "list" = none
  enumerate_ : mg "enumerate" = none
  zip_ : mg "zip" = none
  range_ : mg "range" = none
  sorted_ : mg "sorted" = none
  set_ : mg "set" = none
  reversed_ : mg "reversed" = none
  sum_ : mg "sum" = none
  max_ : mg "max" = none
  cLETTERS : ∃ u, mg "LETTERS" = some u ∧ RelV (.str "abcdefghijklmnopqrstuvwxyz") u
  cMOST_LETTERS : ∃ u, mg "MOST_LETTERS" = some u ∧ RelV (.int 8) u
  cMOST_DEALINGS : ∃ u, mg "MOST_DEALINGS" = some u ∧ RelV (.int 12) u
  cMOST_WORTH : ∃ u, mg "MOST_WORTH" = some u ∧ RelV (.int (10 ^ 9)) u
  cMOST_MOMENT : ∃ u, mg "MOST_MOMENT" = some u ∧ RelV (.int (10 ^ 60)) u
theorem pe_gc {X : Cx} {x : Str} {v : V} {pos : Pos} (h : ∃ u, X.mg x = some u ∧ RelV v u) (hg : Gl X x := by rfl) (hd : (x == ("__debug__" : Str)) = false := by decide) : PE X (.Name x pos) (tC v) := by
  obtain ⟨u, hm, r⟩ := h
  exact pe_glob hg hm r hd
theorem _root_.L2.Room.units65 {k : Nat} {A : Around} (r : Room k A) : A.units + 65 < cLine := by have := r.un; omega
section
variable {K : PySem.W.Frag} {ρ : Ro} {te : TE}
theorem isi_int {i : Int} (h : Ev te ρ (.int i)) : Ev (tCB (rIsi K) (tCons te (tCons (tC (.ty "int")) tNil))) ρ (.bool true) := ev_isi h (show kitB "int" "int" = some true by decide +kernel)
theorem isi_bool {i : Int} (h : Ev te ρ (.int i)) : Ev (tCB (rIsi K) (tCons te (tCons (tC (.ty "bool")) tNil))) ρ (.bool false) := ev_isi h (show kitB "int" "bool" = some false by decide +kernel)
theorem isi_str {i : Str} (h : Ev te ρ (.str i)) : Ev (tCB (rIsi K) (tCons te (tCons (tC (.ty "str")) tNil))) ρ (.bool true) := ev_isi h (show kitB "str" "str" = some true by decide +kernel)
theorem isi_tuple {i : List D} (h : Ev te ρ (.tuple i)) : Ev (tCB (rIsi K) (tCons te (tCons (tC (.ty "tuple")) tNil))) ρ (.bool true) := ev_isi h (show kitB "tuple" "tuple" = some true by decide +kernel)
theorem isi_list {i : List D} (h : Ev te ρ (.list i)) : Ev (tCB (rIsi K) (tCons te (tCons (tC (.ty "list")) tNil))) ρ (.bool true) := ev_isi h (show kitB "list" "list" = some true by decide +kernel)
end
/-- where a def of the top stands -/
structure DefAt (K : PySem.W.Frag) (mg : Str → Option Value) (x : Str) (st : Stmt) (ps : List Str) : Prop where
  ex : ∃ f fd, Fun K x x st f fd ∧ mg x = some (.ref f) ∧ Binds K fd ps []
theorem cal_data {P : Program} {w : World} {K : PySem.W.Frag} {mg : Str → Option Value} {base : Heap} {x : Str} {st : Stmt} {N ps : List Str} {k : Nat} {Pre : List D → Prop} {R : List D → D → Prop}
    (F : DefAt K mg x st ps) (S : FnScope N ps (defScope st)) (len : ∀ ds, Pre ds → ds.length = ps.length)
    (body : ∀ (f : Addr) (cdv : Value) (A : Around) (outer : List Env) (s : Shared) (H : Hp) (E : XK), Room k (A.deeper (envOfC x (defScope st) s.heap.objs.size f cdv)) →
      ∃ t, PSs (cxOf CX0 P w K mg base N x (defScope st) f cdv A outer s H E).nox (defBody st) t ∧ ∀ ds, Pre ds → Sw t (ro N ds) { nx := fun _ => R ds .none, rt := R ds }) :
    Cal P w K mg base x ps (k + 1) (Ct Pre R) := by
  obtain ⟨f, fd, F1, hm, hb⟩ := F.ex
  exact ⟨f, fd, hm, F1.kp, hb, ok_data F1 S len (body f)⟩
theorem cal_dataN {P : Program} {w : World} {K : PySem.W.Frag} {mg : Str → Option Value} {base : Heap} {x : Str} {st : Stmt} {N ps : List Str} {k : Nat} {Pre : List D → Prop} {R : List D → D → Prop}
    (F : DefAt K mg x st ps) (S : FnScope N ps (defScope st)) (len : ∀ ds, Pre ds → ds.length = ps.length)
    (body : ∀ (f : Addr) (cdv : Value) (A : Around) (outer : List Env) (s : Shared) (H : Hp) (E : XK), Room k (A.deeper (envOfC x (defScope st) s.heap.objs.size f cdv)) →
      ∃ t, PSs (cxOf CX0 P w K mg base N x (defScope st) f cdv A outer s H E).nox (defBody st) t ∧ ∀ ds, Pre ds → Sw t (ro N ds) { nx := fun _ => False, rt := R ds, own := true }) :
    Cal P w K mg base x ps (k + 1) (CtN Pre R) := by
  obtain ⟨f, fd, F1, hm, hb⟩ := F.ex
  exact ⟨f, fd, hm, F1.kp, hb, ok_dataN F1 S len (body f)⟩
/-- a promise kept is kept in weaker words -/
theorem Cal.mono {P : Program} {w : World} {K : PySem.W.Frag} {mg : Str → Option Value} {base : Heap} {x : Str} {ps : List Str} {k k' : Nat} {sp : Sp} (h : Cal P w K mg base x ps k sp) (hk : k ≤ k') : Cal P w K mg base x ps k' sp := by
  obtain ⟨f, fd, hm, kp, hb, F⟩ := h
  exact ⟨f, fd, hm, kp, hb, F.mono hk⟩
end Tk

/-! Dm: dealings, their versions, the orders in which they stand, reasons, rings: plain Lean. -/
namespace Dm

/-- a deed: is it a write, its name, its worth -/
structure Dd (N : Type) where
  w : Bool
  n : N
  v : Int
  deriving DecidableEq
/-- a dealing: begin, end, deeds -/
structure Dl (N : Type) where
  b : Int
  e : Int
  ds : List (Dd N)
  deriving DecidableEq

section
variable {N : Type} [DecidableEq N]

/-- what is written to n -/
def wn (n : N) (l : List (Dd N)) : List Int := l.filterMap fun x => if x.w = true ∧ x.n = n then some x.v else none
theorem wn_nil (n : N) : wn n [] = [] := rfl
theorem wn_append (n : N) (a b : List (Dd N)) : wn n (a ++ b) = wn n a ++ wn n b := List.filterMap_append
theorem wn_cons (n : N) (x : Dd N) (l : List (Dd N)) : wn n (x :: l) = (if x.w = true ∧ x.n = n then [x.v] else []) ++ wn n l := by
  unfold wn
  rw [List.filterMap_cons]
  by_cases h : x.w = true ∧ x.n = n
  · simp [h]
  · simp [h]
theorem wn_flat (n : N) {α : Type} (f : α → List (Dd N)) : ∀ l : List α, wn n (l.flatMap f) = l.flatMap fun i => wn n (f i)
  | [] => rfl
  | a :: l => by rw [List.flatMap_cons, List.flatMap_cons, wn_append, wn_flat n f l]
theorem mem_wn {n : N} {v : Int} {l : List (Dd N)} : v ∈ wn n l ↔ ∃ x ∈ l, x.w = true ∧ x.n = n ∧ x.v = v := by
  unfold wn
  rw [List.mem_filterMap]
  constructor
  · rintro ⟨x, hx, h⟩
    by_cases c : x.w = true ∧ x.n = n
    · rw [if_pos c] at h
      exact ⟨x, hx, c.1, c.2, Option.some.inj h⟩
    · rw [if_neg c] at h
      cases h
  · rintro ⟨x, hx, h1, h2, h3⟩
    exact ⟨x, hx, by rw [if_pos ⟨h1, h2⟩, h3]⟩

/-! ### the store -/
def put (st : N → Int) (n : N) (v : Int) : N → Int := fun m => if m = n then v else st m
/-- the deeds done on a store: does each read tell what stands there? -/
def go (st : N → Int) : List (Dd N) → Bool
  | [] => true
  | x :: l => if x.w = true then go (put st x.n x.v) l else if st x.n = x.v then go st l else false
/-- the store behind -/
def aft (st : N → Int) : List (Dd N) → N → Int
  | [] => st
  | x :: l => aft (if x.w = true then put st x.n x.v else st) l
theorem go_append : ∀ (a b : List (Dd N)) (st : N → Int), go st (a ++ b) = (go st a && go (aft st a) b)
  | [], b, st => by simp [go, aft]
  | x :: a, b, st => by
    rw [List.cons_append]
    by_cases h : x.w = true
    · simp only [go, aft, if_pos h]
      exact go_append a b _
    · by_cases e : st x.n = x.v
      · simp only [go, aft, if_neg h, if_pos e]
        exact go_append a b _
      · simp only [go, if_neg h, if_neg e, Bool.false_and]
theorem aft_append : ∀ (a b : List (Dd N)) (st : N → Int), aft st (a ++ b) = aft (aft st a) b
  | [], _, _ => rfl
  | x :: a, b, st => by
    rw [List.cons_append]
    simp only [aft]
    exact aft_append a b _
theorem aft_eq : ∀ (l : List (Dd N)) (st : N → Int) (n : N), aft st l n = (wn n l).getLast?.getD (st n)
  | [], st, n => by simp [aft, wn]
  | x :: l, st, n => by
    simp only [aft]
    rw [aft_eq l, wn_cons]
    by_cases h : x.w = true
    · by_cases e : x.n = n
      · rw [if_pos h, if_pos ⟨h, e⟩]
        have : put st x.n x.v n = x.v := by unfold put; rw [if_pos e.symm]
        rw [this]
        cases hw : wn n l with
        | nil => rfl
        | cons y r => rw [List.cons_append, List.nil_append, List.getLast?_cons_cons]; simp [List.getLast?_cons]
      · rw [if_pos h, if_neg (fun q => e q.2), List.nil_append]
        have : put st x.n x.v n = st n := by unfold put; rw [if_neg (fun q => e q.symm)]
        rw [this]
    · rw [if_neg h, if_neg (fun q => h q.1), List.nil_append]
/-- over an order of pieces -/
theorem go_flat {α : Type} (f : α → List (Dd N)) : ∀ (o : List α) (st : N → Int), go st (o.flatMap f) = true ↔ ∀ p i q, o = p ++ i :: q → go (aft st (p.flatMap f)) (f i) = true
  | [], st => by
    constructor
    · intro _ p i q h
      exact absurd h (by simp)
    · intro _
      rfl
  | a :: o, st => by
    rw [List.flatMap_cons, go_append, Bool.and_eq_true, go_flat f o]
    constructor
    · rintro ⟨h1, h2⟩ p i q h
      cases p with
      | nil =>
        rw [List.nil_append] at h
        injection h with e1 e2
        rw [← e1]
        exact h1
      | cons b p =>
        rw [List.cons_append] at h
        injection h with e1 e2
        rw [List.flatMap_cons, aft_append, ← e1]
        exact h2 p i q e2
    · intro h
      refine ⟨h [] a o rfl, fun p i q e => ?_⟩
      have := h (a :: p) i q (by rw [e, List.cons_append])
      rw [List.flatMap_cons, aft_append] at this
      exact this

/-! ### within one dealing: what is read ahead of own writes, and the own reads -/
def putO (own : N → Option Int) (n : N) (v : Int) : N → Option Int := fun m => if m = n then some v else own m
def ra (own : N → Option Int) : List (Dd N) → List (N × Int)
  | [] => []
  | x :: l => if x.w = true then ra (putO own x.n x.v) l else match own x.n with
    | some _ => ra own l
    | none => (x.n, x.v) :: ra own l
def ownOk (own : N → Option Int) : List (Dd N) → Bool
  | [] => true
  | x :: l => if x.w = true then ownOk (putO own x.n x.v) l else match own x.n with
    | some u => decide (u = x.v) && ownOk own l
    | none => ownOk own l
theorem go_own : ∀ (l : List (Dd N)) (own : N → Option Int) (st : N → Int), go (fun n => (own n).getD (st n)) l = true ↔ ownOk own l = true ∧ ∀ q ∈ ra own l, st q.1 = q.2
  | [], own, st => by simp [go, ownOk, ra]
  | x :: l, own, st => by
    by_cases h : x.w = true
    · simp only [go, ownOk, ra, if_pos h]
      have e : put (fun n => (own n).getD (st n)) x.n x.v = fun n => (putO own x.n x.v n).getD (st n) := by
        funext m
        unfold put putO
        by_cases c : m = x.n
        · rw [if_pos c, if_pos c]; rfl
        · rw [if_neg c, if_neg c]
      rw [e]
      exact go_own l _ st
    · simp only [go, ownOk, ra, if_neg h]
      by_cases hn : own x.n = none
      · simp only [hn, Option.getD_none]
        by_cases c : st x.n = x.v
        · rw [if_pos c, go_own l own st]
          simp only [List.mem_cons, forall_eq_or_imp]
          constructor
          · rintro ⟨a, b⟩; exact ⟨a, c, b⟩
          · rintro ⟨a, _, b⟩; exact ⟨a, b⟩
        · rw [if_neg c]
          constructor
          · intro q; cases q
          · rintro ⟨_, b⟩
            exact absurd (b (x.n, x.v) List.mem_cons_self) c
      · obtain ⟨u, hu⟩ := Option.ne_none_iff_exists'.mp hn
        simp only [hu, Option.getD_some]
        by_cases c : u = x.v
        · rw [if_pos c]
          simp only [c, decide_true, Bool.true_and]
          exact go_own l own st
        · rw [if_neg c]
          simp [c]
def own0 : N → Option Int := fun _ => none
theorem go_own0 (l : List (Dd N)) (st : N → Int) : go st l = true ↔ ownOk own0 l = true ∧ ∀ q ∈ ra own0 l, st q.1 = q.2 := go_own l own0 st
end

/-! ### places in a list without doubles -/
section
variable {α : Type} [DecidableEq α]
theorem pos_lt {o p q : List α} {i j : α} (hn : o.Nodup) (e : o = p ++ i :: q) : o.idxOf j < o.idxOf i ↔ j ∈ p := by
  subst e
  have hi : i ∉ p := fun m => by
    have := List.nodup_append.mp hn
    exact this.2.2 i m i List.mem_cons_self rfl
  have ei : (p ++ i :: q).idxOf i = p.length := by
    rw [List.idxOf_append, if_neg hi, List.idxOf_cons_self]
    omega
  rw [ei]
  constructor
  · intro h
    rw [List.idxOf_append] at h
    by_cases c : j ∈ p
    · exact c
    · rw [if_neg c] at h
      omega
  · intro h
    rw [List.idxOf_append, if_pos h]
    exact List.idxOf_lt_length_iff.mpr h
theorem idx_inj {o : List α} {i j : α} (hi : i ∈ o) (h : o.idxOf i = o.idxOf j) : i = j := by
  have l1 := List.idxOf_lt_length_iff.mpr hi
  have l2 : o.idxOf j < o.length := h ▸ l1
  have e1 := List.getElem_idxOf l1
  have e2 := List.getElem_idxOf l2
  rw [← e1, ← e2]
  simp only [h]
theorem pos_gt {o p q : List α} {i j : α} (hn : o.Nodup) (e : o = p ++ i :: q) (hj : j ∈ o) : o.idxOf i < o.idxOf j ↔ j ∈ q := by
  have hlt := pos_lt (j := j) hn e
  subst e
  obtain ⟨h1, h2, h3⟩ := List.nodup_append.mp hn
  obtain ⟨h4, h5⟩ := List.nodup_cons.mp h2
  constructor
  · intro h
    rcases List.mem_append.mp hj with m | m
    · have := hlt.mpr m
      omega
    · rcases List.mem_cons.mp m with m | m
      · subst m
        omega
      · exact m
  · intro h
    rcases Nat.lt_trichotomy ((p ++ i :: q).idxOf i) ((p ++ i :: q).idxOf j) with c | c | c
    · exact c
    · have : i = j := idx_inj (by simp) c
      exact absurd (this ▸ h) h4
    · have := hlt.mp c
      exact absurd rfl (h3 j this j (List.mem_cons_of_mem _ h))
theorem idx_get {l : List α} (hn : l.Nodup) {a : Nat} {x : α} (h : l[a]? = some x) : l.idxOf x = a := by
  obtain ⟨ha, e⟩ := List.getElem?_eq_some_iff.mp h
  have hm : x ∈ l := e ▸ List.getElem_mem ha
  have h1 := List.idxOf_lt_length_iff.mpr hm
  have h2 := List.getElem_idxOf h1
  rcases Nat.lt_trichotomy (l.idxOf x) a with c | c | c
  · have := List.pairwise_iff_getElem.mp hn _ _ h1 ha c
    exact absurd (h2.trans e.symm) this
  · exact c
  · have := List.pairwise_iff_getElem.mp hn _ _ ha h1 c
    exact absurd (e.trans h2.symm) this
theorem pw_idx {l : List α} (hn : l.Nodup) : l.Pairwise fun u v => l.idxOf u < l.idxOf v := by
  refine List.pairwise_iff_getElem.mpr fun i j hi hj hij => ?_
  rw [idx_get hn (List.getElem?_eq_getElem hi), idx_get hn (List.getElem?_eq_getElem hj)]
  exact hij
theorem pw_pos {o : List α} (hn : o.Nodup) {R : α → α → Prop} (h : ∀ i ∈ o, ∀ j ∈ o, o.idxOf i < o.idxOf j → R i j) : o.Pairwise R := by
  refine List.pairwise_iff_getElem.mpr fun i j hi hj hij => ?_
  refine h _ (List.getElem_mem hi) _ (List.getElem_mem hj) ?_
  rw [idx_get hn (List.getElem?_eq_getElem hi), idx_get hn (List.getElem?_eq_getElem hj)]
  exact hij
theorem of_pw_pos {o : List α} {R : α → α → Prop} (h : o.Pairwise R) {i j : α} (hi : i ∈ o) (hj : j ∈ o) (hij : o.idxOf i < o.idxOf j) : R i j := by
  have l1 := List.idxOf_lt_length_iff.mpr hi
  have l2 := List.idxOf_lt_length_iff.mpr hj
  have := List.pairwise_iff_getElem.mp h _ _ l1 l2 hij
  rw [List.getElem_idxOf l1, List.getElem_idxOf l2] at this
  exact this
end
/-! ### dealings with versions -/
section
variable {N : Type} [DecidableEq N]
/-- the deeds of the i-th dealing -/
def dsOf (ds : List (Dl N)) (i : Nat) : List (Dd N) := ((ds[i]?).map Dl.ds).getD []
/-- i writes v to n -/
def Wr (ds : List (Dl N)) (n : N) (v : Int) (i : Nat) : Prop := i < ds.length ∧ v ∈ wn n (dsOf ds i)
/-- the versions vl are those of the dealings -/
structure Fit (ds : List (Dl N)) (vl : N → List Int) : Prop where
  nd : ∀ n, (vl n).Nodup
  no0 : ∀ n, (0 : Int) ∉ vl n
  all : ∀ n, ((List.range ds.length).flatMap fun i => wn n (dsOf ds i)).Perm (vl n)
  own : ∀ i n, (wn n (dsOf ds i)).Sublist (vl n)
/-- reasons, by their two ends -/
def EdA (ds : List (Dl N)) (vl : N → List Int) (i j : Nat) : Prop := ∃ n a x y, (vl n)[a]? = some x ∧ (vl n)[a + 1]? = some y ∧ Wr ds n x i ∧ Wr ds n y j
def EdS (ds : List (Dl N)) (i j : Nat) : Prop := j < ds.length ∧ ∃ n v, (n, v) ∈ ra own0 (dsOf ds j) ∧ Wr ds n v i
def EdM (ds : List (Dl N)) (vl : N → List Int) (i j : Nat) : Prop := i < ds.length ∧ ∃ n v a y, (n, v) ∈ ra own0 (dsOf ds i) ∧ (0 :: vl n)[a]? = some v ∧ (0 :: vl n)[a + 1]? = some y ∧ Wr ds n y j
def EdT (ds : List (Dl N)) (i j : Nat) : Prop := ∃ d d', ds[i]? = some d ∧ ds[j]? = some d' ∧ d.e < d'.b
def Ed (ds : List (Dl N)) (vl : N → List Int) (timed : Bool) (i j : Nat) : Prop := i ≠ j ∧ (EdA ds vl i j ∨ EdS ds i j ∨ EdM ds vl i j ∨ (timed = true ∧ EdT ds i j))
/-- no deed is lost -/
def NoLost (ds : List (Dl N)) : Prop := ∀ i, i < ds.length → ownOk own0 (dsOf ds i) = true ∧ ∀ q ∈ ra own0 (dsOf ds i), q.2 ≠ 0 → ∃ j, Wr ds q.1 q.2 j ∧ j ≠ i
/-- done one by one in the order -/
def seq (ds : List (Dl N)) (o : List Nat) : List (Dd N) := o.flatMap (dsOf ds)
def TimeOk (ds : List (Dl N)) (o : List Nat) : Prop := ∀ p i q, o = p ++ i :: q → ∀ j ∈ i :: q, ∀ d d', ds[j]? = some d → ds[i]? = some d' → ¬ d.e < d'.b
def Stands (ds : List (Dl N)) (vl : N → List Int) (timed : Bool) (o : List Nat) : Prop :=
  go (fun _ => 0) (seq ds o) = true ∧ (timed = true → TimeOk ds o) ∧ ∀ n, wn n (seq ds o) = vl n

variable {ds : List (Dl N)} {vl : N → List Int} {o : List Nat}
theorem Wr.mem (F : Fit ds vl) {n : N} {v : Int} {i : Nat} (h : Wr ds n v i) : v ∈ vl n :=
  (F.all n).mem_iff.mp (List.mem_flatMap.mpr ⟨i, List.mem_range.mpr h.1, h.2⟩)
theorem Fit.wr (F : Fit ds vl) {n : N} {v : Int} (h : v ∈ vl n) : ∃ i, Wr ds n v i := by
  obtain ⟨i, hi, hv⟩ := List.mem_flatMap.mp ((F.all n).mem_iff.mpr h)
  exact ⟨i, List.mem_range.mp hi, hv⟩
/-- any arrangement of the dealings writes the same -/
theorem Fit.perm (F : Fit ds vl) (ho : o.Perm (List.range ds.length)) (n : N) : (wn n (seq ds o)).Perm (vl n) := by
  unfold seq
  rw [wn_flat]
  exact (ho.flatMap_right _).trans (F.all n)
theorem Fit.one (F : Fit ds vl) {n : N} {v : Int} {i j : Nat} (hi : Wr ds n v i) (hj : Wr ds n v j) : i = j := by
  have hnd : ((List.range ds.length).flatMap fun i => wn n (dsOf ds i)).Nodup := (F.all n).nodup_iff.mpr (F.nd n)
  have h2 := (List.pairwise_flatMap.mp hnd).2
  rcases Nat.lt_trichotomy i j with c | c | c
  · have := List.pairwise_iff_getElem.mp h2 i j (by rw [List.length_range]; exact hi.1) (by rw [List.length_range]; exact hj.1) c
    rw [List.getElem_range, List.getElem_range] at this
    exact absurd rfl (this v hi.2 v hj.2)
  · exact c
  · have := List.pairwise_iff_getElem.mp h2 j i (by rw [List.length_range]; exact hj.1) (by rw [List.length_range]; exact hi.1) c
    rw [List.getElem_range, List.getElem_range] at this
    exact absurd rfl (this v hj.2 v hi.2)
omit [DecidableEq N] in
theorem Perm.nd (ho : o.Perm (List.range ds.length)) : o.Nodup := ho.nodup_iff.mpr List.nodup_range
omit [DecidableEq N] in
theorem Perm.mem (ho : o.Perm (List.range ds.length)) {i : Nat} : i ∈ o ↔ i < ds.length := by
  rw [ho.mem_iff, List.mem_range]

/-- versions in the order's turn: just where who writes the next one never stands ahead -/
theorem after_iff (F : Fit ds vl) (ho : o.Perm (List.range ds.length)) : (∀ n, wn n (seq ds o) = vl n) ↔ ∀ i j, i ≠ j → EdA ds vl i j → o.idxOf i < o.idxOf j := by
  have hn := Perm.nd ho
  constructor
  · rintro h i j hij ⟨n, a, x, y, hx, hy, wi, wj⟩
    have hi := (Perm.mem ho).mpr wi.1
    have hj := (Perm.mem ho).mpr wj.1
    rcases Nat.lt_trichotomy (o.idxOf i) (o.idxOf j) with c | c | c
    · exact c
    · exact absurd (idx_inj hi c) hij
    · exfalso
      have e := h n
      unfold seq at e
      rw [wn_flat] at e
      have pw := pw_idx (F.nd n)
      have q : (o.flatMap fun i => wn n (dsOf ds i)).Pairwise fun u v => (vl n).idxOf u < (vl n).idxOf v := by
        rw [e]
        exact pw
      have q2 := of_pw_pos (List.pairwise_flatMap.mp q).2 hj hi c y wj.2 x wi.2
      rw [idx_get (F.nd n) hx, idx_get (F.nd n) hy] at q2
      omega
  · intro h n
    have perm := F.perm ho n
    -- who writes later versions stands later
    have chain : ∀ (k a : Nat) (x y : Int) (i j : Nat), (vl n)[a]? = some x → (vl n)[a + k]? = some y → Wr ds n x i → Wr ds n y j → o.idxOf i ≤ o.idxOf j := by
      intro k
      induction k with
      | zero =>
        intro a x y i j hx hy wi wj
        have e : x = y := Option.some.inj (hx.symm.trans hy)
        subst e
        rw [F.one wi wj]
        exact Nat.le_refl _
      | succ k ih =>
        intro a x y i j hx hy wi wj
        have hlt : a + k < (vl n).length := by
          have := (List.getElem?_eq_some_iff.mp hy).1
          omega
        obtain ⟨m, wm⟩ := F.wr (List.getElem_mem hlt)
        have h1 := ih a x _ i m hx (List.getElem?_eq_getElem hlt) wi wm
        by_cases c : m = j
        · rw [← c]
          exact h1
        · have := h m j c ⟨n, a + k, _, y, List.getElem?_eq_getElem hlt, hy, wm, wj⟩
          omega
    refine List.Perm.eq_of_pairwise (le := fun u v => (vl n).idxOf u < (vl n).idxOf v) (fun a b _ _ h1 h2 => by omega) ?_ (pw_idx (F.nd n)) perm
    unfold seq
    rw [wn_flat]
    refine List.pairwise_flatMap.mpr ⟨fun i _ => (pw_idx (F.nd n)).sublist (F.own i n), ?_⟩
    refine pw_pos hn fun i hi j hj hij u hu v hv => ?_
    have wi : Wr ds n u i := ⟨(Perm.mem ho).mp hi, hu⟩
    have wj : Wr ds n v j := ⟨(Perm.mem ho).mp hj, hv⟩
    have lu := List.idxOf_lt_length_iff.mpr (wi.mem F)
    have lv := List.idxOf_lt_length_iff.mpr (wj.mem F)
    rcases Nat.lt_or_ge ((vl n).idxOf u) ((vl n).idxOf v) with c | c
    · exact c
    · exfalso
      have g := chain ((vl n).idxOf u - (vl n).idxOf v) ((vl n).idxOf v) v u j i (by rw [List.getElem?_eq_getElem lv, List.getElem_idxOf]) (by
        rw [show (vl n).idxOf v + ((vl n).idxOf u - (vl n).idxOf v) = (vl n).idxOf u by omega, List.getElem?_eq_getElem lu, List.getElem_idxOf]) wj wi
      omega

/-- a read ahead of own writes finds its worth: just where it isn't lost and its reasons go on -/
theorem read_iff (F : Fit ds vl) (ho : o.Perm (List.range ds.length)) (hw : ∀ n, wn n (seq ds o) = vl n) {p q : List Nat} {i : Nat} (e : o = p ++ i :: q) {n : N} {v : Int} :
    aft (fun _ => 0) (seq ds p) n = v ↔ (v ≠ 0 → ∃ j, Wr ds n v j ∧ j ≠ i) ∧ (∀ j, Wr ds n v j → j ≠ i → o.idxOf j < o.idxOf i) ∧
      (∀ a y j, (0 :: vl n)[a]? = some v → (0 :: vl n)[a + 1]? = some y → Wr ds n y j → j ≠ i → o.idxOf i < o.idxOf j) := by
  have hn := Perm.nd ho
  have hs : vl n = wn n (seq ds p) ++ (wn n (dsOf ds i) ++ wn n (seq ds q)) := by
    rw [← hw n, e]
    unfold seq
    rw [List.flatMap_append, List.flatMap_cons, wn_append, wn_append]
  have hip : i ∉ p := fun m => by
    rw [e] at hn
    exact (List.nodup_append.mp hn).2.2 i m i List.mem_cons_self rfl
  have inp : ∀ {u : Int} {j : Nat}, Wr ds n u j → (j ∈ p ↔ u ∈ wn n (seq ds p)) := fun {u j} wj => by
    unfold seq
    rw [wn_flat]
    constructor
    · intro m
      exact List.mem_flatMap.mpr ⟨j, m, wj.2⟩
    · intro m
      obtain ⟨k, hk, hu⟩ := List.mem_flatMap.mp m
      have hk2 : k < ds.length := (Perm.mem ho).mp (by rw [e]; exact List.mem_append_left _ hk)
      rw [F.one wj ⟨hk2, hu⟩]
      exact hk
  have wrp : ∀ {u : Int}, u ∈ wn n (seq ds p) → ∃ j, j ∈ p ∧ Wr ds n u j := fun {u} m => by
    unfold seq at m
    rw [wn_flat] at m
    obtain ⟨k, hk, hu⟩ := List.mem_flatMap.mp m
    exact ⟨k, hk, (Perm.mem ho).mp (by rw [e]; exact List.mem_append_left _ hk), hu⟩
  have lt_iff : ∀ j, o.idxOf j < o.idxOf i ↔ j ∈ p := fun j => pos_lt hn e
  have hmem : ∀ {u : Int} {j : Nat}, Wr ds n u j → j ∈ o := fun wj => (Perm.mem ho).mpr wj.1
  have nd0 : (0 :: vl n).Nodup := List.nodup_cons.mpr ⟨F.no0 n, F.nd n⟩
  generalize hk : wn n (seq ds p) = A at *
  -- what stands there is the version at the place of A's length
  have ha : aft (fun _ => 0) (seq ds p) n = (0 :: vl n).getD A.length 0 := by
    rw [aft_eq, hk, hs]
    rcases List.eq_nil_or_concat A with c | ⟨A', x, c⟩
    · rw [c]
      rfl
    · rw [c]
      simp [List.getD_eq_getElem?_getD]
  have hlenA : A.length < (0 :: vl n).length := by
    rw [hs, List.length_cons, List.length_append]
    omega
  have ha? : (0 :: vl n)[A.length]? = some (aft (fun _ => 0) (seq ds p) n) := by
    rw [ha, List.getD_eq_getElem?_getD, List.getElem?_eq_getElem hlenA]
    rfl
  have inA : ∀ {a : Nat} {u : Int}, (vl n)[a]? = some u → (u ∈ A ↔ a < A.length) := fun {a u} h => by
    constructor
    · intro m
      obtain ⟨b, hb, eb⟩ := List.mem_iff_getElem.mp m
      have hb' : (vl n)[b]? = some u := by
        rw [hs, List.getElem?_append_left hb, List.getElem?_eq_getElem hb, eb]
      have := (idx_get (F.nd n) h).symm.trans (idx_get (F.nd n) hb')
      omega
    · intro hlt
      rw [hs, List.getElem?_append_left hlt] at h
      exact List.mem_of_getElem? h
  constructor
  · intro hv
    rw [hv] at ha?
    refine ⟨fun h0 => ?_, fun j wj _ => ?_, fun a y j h1 h2 wj hji => ?_⟩
    · cases hA : A.length with
      | zero =>
        rw [hA] at ha?
        exact absurd (Option.some.inj ha?).symm h0
      | succ k =>
        rw [hA, List.getElem?_cons_succ] at ha?
        obtain ⟨j, hj, wj⟩ := wrp ((inA ha?).mpr (by omega))
        exact ⟨j, wj, fun c => hip (c ▸ hj)⟩
    · refine (lt_iff j).mpr ((inp wj).mpr ?_)
      cases hA : A.length with
      | zero =>
        rw [hA] at ha?
        have : v = 0 := (Option.some.inj ha?).symm
        exact absurd (this ▸ wj.mem F) (F.no0 n)
      | succ k =>
        rw [hA, List.getElem?_cons_succ] at ha?
        exact (inA ha?).mpr (by omega)
    · have ea : a = A.length := (idx_get nd0 h1).symm.trans (idx_get nd0 ha?)
      rw [List.getElem?_cons_succ, ea] at h2
      rcases Nat.lt_trichotomy (o.idxOf i) (o.idxOf j) with c | c | c
      · exact c
      · exact absurd (idx_inj (by rw [e]; simp) c).symm hji
      · have := (inA h2).mp ((inp wj).mp ((lt_iff j).mp c))
        omega
  · rintro ⟨h1, h2, h3⟩
    by_cases h0 : v = 0
    · -- none is written ahead
      have hA : A.length = 0 := by
        rcases Nat.eq_zero_or_pos A.length with c | c
        · exact c
        · exfalso
          have hl : 0 < (vl n).length := by
            rw [List.length_cons] at hlenA
            omega
          have hm : (vl n)[0] ∈ A := (inA (List.getElem?_eq_getElem hl)).mpr c
          obtain ⟨j, hj, wj⟩ := wrp hm
          have := h3 0 (vl n)[0] j (by rw [h0]; rfl) (by rw [List.getElem?_cons_succ, List.getElem?_eq_getElem hl]) wj (fun c => hip (c ▸ hj))
          have := (lt_iff j).mpr hj
          omega
      rw [hA] at ha?
      rw [h0]
      exact (Option.some.inj ha?).symm
    · obtain ⟨j, wj, hji⟩ := h1 h0
      have hm := (inp wj).mp ((lt_iff j).mp (h2 j wj hji))
      obtain ⟨a, hla, ea⟩ := List.mem_iff_getElem.mp (wj.mem F)
      have hga : (vl n)[a]? = some v := by rw [List.getElem?_eq_getElem hla, ea]
      have hlt := (inA hga).mp hm
      have hA : a + 1 = A.length := by
        rcases Nat.lt_or_ge (a + 1) A.length with c | c
        · exfalso
          have hl2 : a + 1 < (vl n).length := by
            rw [List.length_cons] at hlenA
            omega
          obtain ⟨j', hj', wj'⟩ := wrp ((inA (List.getElem?_eq_getElem hl2)).mpr c)
          have := h3 (a + 1) _ j' (by rw [List.getElem?_cons_succ, hga]) (by rw [List.getElem?_cons_succ, List.getElem?_eq_getElem hl2]) wj' (fun c => hip (c ▸ hj'))
          have := (lt_iff j').mpr hj'
          omega
        · omega
      rw [← hA, List.getElem?_cons_succ, hga] at ha?
      exact (Option.some.inj ha?).symm
/-- with real time -/
theorem time_iff (ho : o.Perm (List.range ds.length)) (hbe : ∀ d ∈ ds, d.b < d.e) : TimeOk ds o ↔ ∀ i j, i ≠ j → EdT ds i j → o.idxOf i < o.idxOf j := by
  have hn := Perm.nd ho
  constructor
  · rintro h i j hij ⟨d, d', hd, hd', hlt⟩
    have hi := (Perm.mem ho).mpr (List.getElem?_eq_some_iff.mp hd).1
    have hj := (Perm.mem ho).mpr (List.getElem?_eq_some_iff.mp hd').1
    obtain ⟨p, q, e⟩ := List.append_of_mem hj
    refine (pos_lt hn e).mpr ?_
    have hm := hi
    rw [e] at hm
    rcases List.mem_append.mp hm with m | m
    · exact m
    · exact absurd hlt (h p j q e i m d d' hd hd')
  · intro h p i q e j hj d d' hd hd' hlt
    rcases List.mem_cons.mp hj with c | c
    · subst c
      have e2 : d = d' := Option.some.inj (hd.symm.trans hd')
      have := hbe d (List.mem_of_getElem? hd)
      rw [← e2] at hlt
      omega
    · have hji : j ≠ i := fun z => by
        subst z
        rw [e] at hn
        exact (List.nodup_cons.mp (List.nodup_append.mp hn).2.1).1 c
      have h1 := h j i hji ⟨d, d', hd, hd', hlt⟩
      have h2 := (pos_lt hn e).mp h1
      rw [e] at hn
      exact (List.nodup_append.mp hn).2.2 j h2 j (List.mem_cons_of_mem _ c) rfl

/-- AN ORDER STANDS just where no deed is lost and all reasons go on in it -/
theorem stands_iff (F : Fit ds vl) (hbe : ∀ d ∈ ds, d.b < d.e) (timed : Bool) (ho : o.Perm (List.range ds.length)) :
    Stands ds vl timed o ↔ NoLost ds ∧ ∀ i j, Ed ds vl timed i j → o.idxOf i < o.idxOf j := by
  have hn := Perm.nd ho
  have ha := after_iff F ho
  have ht := time_iff (o := o) ho hbe
  constructor
  · rintro ⟨h1, h2, h3⟩
    have rd : ∀ p i q, o = p ++ i :: q → ownOk own0 (dsOf ds i) = true ∧ ∀ r ∈ ra own0 (dsOf ds i), aft (fun _ => 0) (seq ds p) r.1 = r.2 := fun p i q e =>
      (go_own0 _ _).mp ((go_flat (dsOf ds) o _).mp h1 p i q e)
    refine ⟨fun i hi => ?_, fun i j hij => ?_⟩
    · obtain ⟨p, q, e⟩ := List.append_of_mem ((Perm.mem ho).mpr hi)
      obtain ⟨a, b⟩ := rd p i q e
      exact ⟨a, fun r hr => ((read_iff F ho h3 e).mp (b r hr)).1⟩
    · obtain ⟨hne, c | ⟨hj, n, v, hr, wi⟩ | ⟨hi, n, v, a, y, hr, g1, g2, wj⟩ | ⟨c1, c2⟩⟩ := hij
      · exact ha.mp h3 i j hne c
      · obtain ⟨p, q, e⟩ := List.append_of_mem ((Perm.mem ho).mpr hj)
        exact ((read_iff F ho h3 e).mp ((rd p j q e).2 (n, v) hr)).2.1 i wi hne
      · obtain ⟨p, q, e⟩ := List.append_of_mem ((Perm.mem ho).mpr hi)
        exact ((read_iff F ho h3 e).mp ((rd p i q e).2 (n, v) hr)).2.2 a y j g1 g2 wj (Ne.symm hne)
      · exact ht.mp (h2 c1) i j hne c2
  · rintro ⟨nl, h⟩
    have h3 := ha.mpr fun i j hne c => h i j ⟨hne, .inl c⟩
    refine ⟨(go_flat (dsOf ds) o _).mpr fun p i q e => (go_own0 _ _).mpr ?_, fun c => ht.mpr fun i j hne d => h i j ⟨hne, .inr (.inr (.inr ⟨c, d⟩))⟩, h3⟩
    have hi : i < ds.length := (Perm.mem ho).mp (by rw [e]; simp)
    obtain ⟨a, b⟩ := nl i hi
    refine ⟨a, fun r hr => (read_iff F ho h3 e).mpr ⟨b r hr, fun j wj hji => ?_, fun x y j g1 g2 wj hji => ?_⟩⟩
    · exact h j i ⟨hji, .inr (.inl ⟨hi, r.1, r.2, hr, wj⟩)⟩
    · exact h i j ⟨Ne.symm hji, .inr (.inr (.inl ⟨hi, r.1, r.2, x, y, hr, g1, g2, wj⟩))⟩
end
end Dm

set_option linter.all false
/-! Dm2: what is written as pairs; versions as a list of names with their worths. -/
namespace Dm
section
variable {N : Type} [DecidableEq N]
/-- what is written, in order, as pairs -/
def wb (l : List (Dd N)) : List (N × Int) := l.filterMap fun x => if x.w = true then some (x.n, x.v) else none
def ofN (n : N) (p : N × Int) : Option Int := if p.1 = n then some p.2 else none
omit [DecidableEq N] in
theorem wb_append (a b : List (Dd N)) : wb (a ++ b) = wb a ++ wb b := List.filterMap_append
theorem wn_wb (n : N) : ∀ l : List (Dd N), wn n l = (wb l).filterMap (ofN n)
  | [] => rfl
  | x :: l => by
    rw [wn_cons, wn_wb n l]
    unfold wb
    rw [List.filterMap_cons]
    by_cases h : x.w = true
    · by_cases e : x.n = n
      · simp [h, e, ofN]
      · simp [h, e, ofN]
    · simp [h]
theorem mem_wb {l : List (Dd N)} {n : N} {v : Int} : (n, v) ∈ wb l ↔ v ∈ wn n l := by
  rw [wn_wb, List.mem_filterMap]
  constructor
  · intro h
    exact ⟨(n, v), h, by unfold ofN; rw [if_pos rfl]⟩
  · rintro ⟨p, hp, h⟩
    unfold ofN at h
    by_cases c : p.1 = n
    · rw [if_pos c] at h
      have e : p = (n, v) := Prod.ext c (Option.some.inj h)
      exact e ▸ hp
    · rw [if_neg c] at h
      cases h
theorem nodup_pairs : ∀ l : List (N × Int), (∀ n, (l.filterMap (ofN n)).Nodup) → l.Nodup
  | [], _ => List.nodup_nil
  | p :: l, h => by
    refine List.nodup_cons.mpr ⟨fun m => ?_, nodup_pairs l fun n => ?_⟩
    · have q := h p.1
      rw [List.filterMap_cons] at q
      have e : ofN p.1 p = some p.2 := by unfold ofN; rw [if_pos rfl]
      rw [e] at q
      exact (List.nodup_cons.mp q).1 (List.mem_filterMap.mpr ⟨p, m, e⟩)
    · have q := h n
      rw [List.filterMap_cons] at q
      cases c : ofN n p with
      | none =>
        rw [c] at q
        exact q
      | some v =>
        rw [c] at q
        exact (List.nodup_cons.mp q).2
/-- all that is written -/
def allW (ds : List (Dl N)) : List (N × Int) := ds.flatMap fun d => wb d.ds
omit [DecidableEq N] in
theorem dsOf_get {ds : List (Dl N)} {i : Nat} {d : Dl N} (h : ds[i]? = some d) : dsOf ds i = d.ds := by
  unfold dsOf
  rw [h]
  rfl
theorem flat_range {α β : Type} (f : α → List β) (ds : List α) (g : Nat → List β) (h : ∀ (i : Nat) (d : α), ds[i]? = some d → g i = f d) : (List.range ds.length).flatMap g = ds.flatMap f := by
  have key : ∀ (n : Nat), n ≤ ds.length → (List.range n).flatMap g = (ds.take n).flatMap f := by
    intro n
    induction n with
    | zero => intro _; rfl
    | succ n ih =>
      intro hn
      have hl : n < ds.length := by omega
      rw [List.range_succ, List.flatMap_append, ih (by omega), List.take_add_one, List.getElem?_eq_getElem hl, List.flatMap_append]
      have := h n ds[n] (List.getElem?_eq_getElem hl)
      simp [this]
  have := key ds.length (Nat.le_refl _)
  rw [List.take_length] at this
  exact this
variable {ds : List (Dl N)} {vl : N → List Int}
theorem allW_of (n : N) : (allW ds).filterMap (ofN n) = (List.range ds.length).flatMap fun i => wn n (dsOf ds i) := by
  rw [flat_range (fun d : Dl N => wn n d.ds) ds _ fun i d h => by rw [dsOf_get h]]
  unfold allW
  rw [List.filterMap_flatMap]
  congr 1
  funext d
  exact (wn_wb n d.ds).symm
theorem Fit.nodupW (F : Fit ds vl) : (allW ds).Nodup := nodup_pairs _ fun n => by
  rw [allW_of]
  exact (F.all n).nodup_iff.mpr (F.nd n)
theorem Fit.memW (F : Fit ds vl) {n : N} {v : Int} : (n, v) ∈ allW ds ↔ v ∈ vl n := by
  rw [← (F.all n).mem_iff, ← allW_of, List.mem_filterMap]
  constructor
  · intro h
    exact ⟨(n, v), h, by unfold ofN; rw [if_pos rfl]⟩
  · rintro ⟨p, hp, h⟩
    unfold ofN at h
    by_cases c : p.1 = n
    · rw [if_pos c] at h
      have e : p = (n, v) := Prod.ext c (Option.some.inj h)
      exact e ▸ hp
    · rw [if_neg c] at h
      cases h
/-- a dealing's own versions of a name rise -/
theorem Fit.rises (F : Fit ds vl) {i : Nat} {d : Dl N} (hd : ds[i]? = some d) {pre rest : List (N × Int)} {n : N} {u u' : Int} (e : wb d.ds = pre ++ (n, u) :: rest) (h : (n, u') ∈ pre) : (vl n).idxOf u' < (vl n).idxOf u := by
  have s := F.own i n
  rw [dsOf_get hd, wn_wb, e, List.filterMap_append, List.filterMap_cons] at s
  have eu : ofN n (n, u) = some u := by unfold ofN; rw [if_pos rfl]
  rw [eu] at s
  have pw := (pw_idx (F.nd n)).sublist s
  exact (List.pairwise_append.mp pw).2.2 u' (List.mem_filterMap.mpr ⟨(n, u'), h, by unfold ofN; rw [if_pos rfl]⟩) u List.mem_cons_self
/-! ### versions as a list -/
def vlOf (vs : List (N × List Int)) (n : N) : List Int := ((vs.find? fun p => decide (p.1 = n)).map (·.2)).getD []
theorem vlOf_mem {vs : List (N × List Int)} (hn : (vs.map (·.1)).Nodup) {p : N × List Int} (h : p ∈ vs) : (vs.find? fun q => decide (q.1 = p.1)) = some p ∧ vlOf vs p.1 = p.2 := by
  have key : (vs.find? fun q => decide (q.1 = p.1)) = some p := by
    induction vs with
    | nil => cases h
    | cons q r ih =>
      rw [List.map_cons] at hn
      obtain ⟨h1, h2⟩ := List.nodup_cons.mp hn
      rw [List.find?_cons]
      rcases List.mem_cons.mp h with c | c
      · rw [c]
        simp
      · have ne : q.1 ≠ p.1 := fun z => h1 (List.mem_map.mpr ⟨p, c, z.symm⟩)
        rw [decide_eq_false ne]
        exact ih h2 c
  refine ⟨key, ?_⟩
  unfold vlOf
  rw [key]
  rfl
theorem vlOf_some {vs : List (N × List Int)} {n : N} {v : Int} (h : v ∈ vlOf vs n) : ∃ p ∈ vs, p.1 = n ∧ v ∈ p.2 ∧ (vs.find? fun q => decide (q.1 = n)) = some p := by
  unfold vlOf at h
  cases c : vs.find? (fun q => decide (q.1 = n)) with
  | none =>
    rw [c] at h
    exact nomatch h
  | some p =>
    rw [c] at h
    have q := List.find?_some c
    exact ⟨p, List.mem_of_find?_eq_some c, of_decide_eq_true q, h, rfl⟩
end
end Dm

set_option linter.all false
/-! Dm3: the reasons as lists. -/
namespace Dm
/-- a reason: elder, newer, its kind, its name -/
structure Rs (N κ : Type) where
  i : Nat
  j : Nat
  k : κ
  n : Option N
  deriving DecidableEq
inductive Kd where
  | after | seen | missed | time
  deriving DecidableEq
section
variable {N : Type} [DecidableEq N]
/-- who writes v to n -/
def wOf (ds : List (Dl N)) (n : N) (v : Int) : Nat := ((List.range ds.length).find? fun i => decide (v ∈ wn n (dsOf ds i))).getD 0
theorem wOf_eq {ds : List (Dl N)} {vl : N → List Int} (F : Fit ds vl) {n : N} {v : Int} {i : Nat} (h : Wr ds n v i) : wOf ds n v = i := by
  unfold wOf
  cases c : (List.range ds.length).find? fun i => decide (v ∈ wn n (dsOf ds i)) with
  | none =>
    have := List.find?_eq_none.mp c i (List.mem_range.mpr h.1)
    exact absurd (decide_eq_true h.2) this
  | some j =>
    have h1 := List.find?_some c
    have h2 := List.mem_range.mp (List.mem_of_find?_eq_some c)
    exact F.one (show Wr ds n v j from ⟨h2, of_decide_eq_true h1⟩) h
theorem wOf_wr {ds : List (Dl N)} {vl : N → List Int} (F : Fit ds vl) {n : N} {v : Int} (h : v ∈ vl n) : Wr ds n v (wOf ds n v) := by
  obtain ⟨i, hi⟩ := F.wr h
  rw [wOf_eq F hi]
  exact hi
abbrev Rn (N : Type) := Rs N Kd
def afterN (ds : List (Dl N)) (n : N) (l : List Int) : List (Rn N) := (l.zip (l.drop 1)).map fun p => ⟨wOf ds n p.1, wOf ds n p.2, .after, some n⟩
def afterL (ds : List (Dl N)) (vs : List (N × List Int)) : List (Rn N) := vs.flatMap fun p => afterN ds p.1 p.2
def seenL (ds : List (Dl N)) (vl : N → List Int) (i : Nat) (n : N) (v : Int) : List (Rn N) := if v ∈ vl n then [⟨wOf ds n v, i, .seen, some n⟩] else []
def nextL (vl : N → List Int) (n : N) (v : Int) : List Int := if v ∈ 0 :: vl n then ((0 :: vl n).drop ((0 :: vl n).idxOf v + 1)).take 1 else []
def missL (ds : List (Dl N)) (vl : N → List Int) (i : Nat) (n : N) (v : Int) : List (Rn N) := (nextL vl n v).map fun y => ⟨i, wOf ds n y, .missed, some n⟩
def readL (ds : List (Dl N)) (vl : N → List Int) (i : Nat) (q : N × Int) : List (Rn N) := seenL ds vl i q.1 q.2 ++ missL ds vl i q.1 q.2
def beOf (ds : List (Dl N)) (i : Nat) : Int × Int := ((ds[i]?).map fun d => (d.b, d.e)).getD (0, 0)
def timeN (ds : List (Dl N)) (i n : Nat) : List (Rn N) := (List.range n).filterMap fun j => if (beOf ds i).2 < (beOf ds j).1 then some ⟨i, j, .time, none⟩ else none
def timeL (ds : List (Dl N)) (n : Nat) : List (Rn N) := (List.range n).flatMap fun i => timeN ds i ds.length
def readsL (ds : List (Dl N)) (vl : N → List Int) (n : Nat) : List (Rn N) := (List.range n).flatMap fun i => (ra own0 (dsOf ds i)).flatMap (readL ds vl i)
def allL (ds : List (Dl N)) (vs : List (N × List Int)) (timed : Bool) : List (Rn N) := afterL ds vs ++ readsL ds (vlOf vs) ds.length ++ (if timed = true then timeL ds ds.length else [])
/-- the reasons, in whatever order -/
def Known (ds : List (Dl N)) (vs : List (N × List Int)) (timed : Bool) (rs : List (Rn N)) : Prop := rs.length ≤ 1000 ∧ ∀ r, r ∈ rs ↔ r ∈ allL ds vs timed ∧ r.i ≠ r.j
theorem fl_succ {α β : Type} {l : List α} {f : α → List β} {i : Nat} {d : α} (h : l[i]? = some d) : (l.take (i + 1)).flatMap f = (l.take i).flatMap f ++ f d := by
  rw [List.take_add_one, h, List.flatMap_append]
  simp
theorem fr_succ {β : Type} {f : Nat → List β} {i : Nat} : (List.range (i + 1)).flatMap f = (List.range i).flatMap f ++ f i := by
  rw [List.range_succ, List.flatMap_append]
  simp
theorem ra_len (own : N → Option Int) : ∀ l : List (Dd N), (ra own l).length ≤ l.length
  | [] => Nat.le_refl _
  | x :: l => by
    unfold ra
    by_cases h : x.w = true
    · rw [if_pos h]
      have := ra_len (putO own x.n x.v) l
      rw [List.length_cons]
      omega
    · rw [if_neg h]
      cases own x.n with
      | some u =>
        exact Nat.le_succ_of_le (ra_len own l)
      | none =>
        exact Nat.succ_le_succ (ra_len own l)
theorem ra_w {own : N → Option Int} {x : Dd N} {l : List (Dd N)} (h : x.w = true) : ra own (x :: l) = ra (putO own x.n x.v) l := by rw [ra, if_pos h]
theorem ra_s {own : N → Option Int} {x : Dd N} {l : List (Dd N)} (h : ¬ x.w = true) {u : Int} (e : own x.n = some u) : ra own (x :: l) = ra own l := by rw [ra, if_neg h, e]
theorem ra_n {own : N → Option Int} {x : Dd N} {l : List (Dd N)} (h : ¬ x.w = true) (e : own x.n = none) : ra own (x :: l) = (x.n, x.v) :: ra own l := by rw [ra, if_neg h, e]
theorem ok_w {own : N → Option Int} {x : Dd N} {l : List (Dd N)} (h : x.w = true) : ownOk own (x :: l) = ownOk (putO own x.n x.v) l := by rw [ownOk, if_pos h]
theorem ok_s {own : N → Option Int} {x : Dd N} {l : List (Dd N)} (h : ¬ x.w = true) {u : Int} (e : own x.n = some u) : ownOk own (x :: l) = (decide (u = x.v) && ownOk own l) := by rw [ownOk, if_neg h, e]
theorem ok_n {own : N → Option Int} {x : Dd N} {l : List (Dd N)} (h : ¬ x.w = true) (e : own x.n = none) : ownOk own (x :: l) = ownOk own l := by rw [ownOk, if_neg h, e]
end
end Dm

set_option Elab.async false
set_option linter.all false
set_option maxRecDepth 100000
set_option maxHeartbeats 1000000
/-! Ms1: tables of sets, up to 512 slots: every search ends, every table can be laid anew. -/
namespace Tk
open PySem PySem.Spec PyProof.Rows L2
/-- from each slot the round comes to each slot -/
def Rnd (m : Nat) : Prop := ∀ i j, i ≤ m → j ≤ m → ∃ k, k ≤ m ∧ lcgI m i k = j
def orb (m : Nat) : Nat → Nat → List Nat
  | 0, _ => []
  | n + 1, x => x :: orb m n ((x * 5 + 1) % (m + 1))
theorem orb_mem (m : Nat) : ∀ (n a : Nat) (j : Nat), j ∈ orb m n (lcgN m a) → ∃ b, b < n ∧ lcgN m (a + b) = j
  | 0, _, _, h => nomatch h
  | n + 1, a, j, h => by
    rcases List.mem_cons.mp h with h | h
    · exact ⟨0, Nat.succ_pos _, h.symm⟩
    · obtain ⟨b, hb, e⟩ := orb_mem m n (a + 1) j h
      exact ⟨b + 1, Nat.succ_lt_succ hb, by rw [← e, Nat.add_assoc, Nat.add_comm 1 b]⟩
theorem orb511 : ((List.range 512).all fun j => (orb 511 512 0).contains j) = true := by decide +kernel
def stp (m : Nat) : Nat → Nat → Nat
  | 0, x => x
  | n + 1, x => stp m n ((x * 5 + 1) % (m + 1))
theorem stp_lcg (m : Nat) : ∀ (n a : Nat), stp m n (lcgN m a) = lcgN m (a + n)
  | 0, _ => rfl
  | n + 1, a => by
    have := stp_lcg m n (a + 1)
    rw [Nat.add_assoc, Nat.add_comm 1 n] at this
    exact this
theorem stp511 : stp 511 512 0 = 0 := by decide +kernel
theorem rnd511 : Rnd 511 := by
  have meets : ∀ j, j ≤ 511 → ∃ b, b < 512 ∧ lcgN 511 b = j := fun j hj => by
    have h := List.all_eq_true.mp orb511 j (List.mem_range.mpr (Nat.lt_succ_of_le hj))
    obtain ⟨b, hb, e⟩ := orb_mem 511 512 0 j (List.contains_iff_mem.mp h)
    exact ⟨b, hb, by rw [Nat.zero_add] at e; exact e⟩
  have back : ∀ k, lcgN 511 (512 + k) = lcgN 511 k := fun k => by
    induction k with
    | zero =>
      have := stp_lcg 511 512 0
      rw [show lcgN 511 0 = 0 from rfl, stp511, Nat.zero_add] at this
      exact this.symm
    | succ k ih =>
      show (lcgN 511 (512 + k) * 5 + 1) % 512 = (lcgN 511 k * 5 + 1) % 512
      rw [ih]
  intro i j hi hj
  obtain ⟨a, ha, rfl⟩ := meets i hi
  obtain ⟨b, hb, rfl⟩ := meets j hj
  by_cases c : a ≤ b
  · exact ⟨b - a, by omega, by rw [lcgN_add, Nat.add_sub_cancel' c]⟩
  · refine ⟨512 + b - a, by omega, ?_⟩
    rw [lcgN_add, show a + (512 + b - a) = 512 + b by omega, back]
/-- the masks -/
def M4 (m : Nat) : Prop := m = 7 ∨ m = 31 ∨ m = 127 ∨ m = 511
theorem M4.rnd {m : Nat} (h : M4 m) : Rnd m := by
  rcases h with e | e | e | e
  · exact fun i j hi hj => lcgI_all (.inl e) hi hj
  · exact fun i j hi hj => lcgI_all (.inr (.inl e)) hi hj
  · exact fun i j hi hj => lcgI_all (.inr (.inr e)) hi hj
  · subst e
    exact rnd511
theorem M4.odd {m : Nat} (h : M4 m) : m % 2 = 1 := by
  rcases h with e | e | e | e <;> subst e <;> rfl
section
variable {m : Nat}
theorem Rnd.run (R : Rnd m) (h : Int) {j : Nat} (hj : j ≤ m) : ∃ n, n ≤ m + 12 ∧ runI m (SetTable.bits h) n = j := by
  obtain ⟨k, a, b⟩ := R _ j (runI_le m (SetTable.bits h) 12) hj
  refine ⟨12 + k, by omega, ?_⟩
  rw [runI_tail (bits_lt h), b]
theorem Rnd.meet (R : Rnd m) (h : Int) {j : Nat} (hj : j ≤ m) : ∃ k, k < 10 * SetTable.turns m ∧ way m h k = j := by
  obtain ⟨n, a, b⟩ := R.run h hj
  obtain ⟨k, c, d⟩ := run_nth m (SetTable.bits h) n
  refine ⟨k, by unfold SetTable.turns; omega, ?_⟩
  show SetTable.Probe.j _ = j
  rw [d, ← b]
  rfl
theorem way_in (h : Int) (k : Nat) : way m h k ≤ m := by
  have lt : SetTable.bits h % (m + 1) ≤ m := Nat.lt_succ_iff.mp (Nat.mod_lt _ (Nat.succ_pos m))
  have bd := runEnd_bd lt
  have st : (runAt m (SetTable.bits h % (m + 1)) (SetTable.bits h)).j + (runAt m (SetTable.bits h % (m + 1)) (SetTable.bits h)).more ≤ m := by
    show SetTable.bits h % (m + 1) + (SetTable.runEnd m (SetTable.bits h % (m + 1)) - SetTable.bits h % (m + 1)) ≤ m
    omega
  exact Nat.le_trans (Nat.le_add_right _ _) (nth_in k _ st)
/-- the first slot on the way that is not in the list -/
theorem Rnd.first (R : Rnd m) (h : Int) {l : List Nat} (hl : l.length ≤ m) : ∃ K, K < 10 * SetTable.turns m ∧ way m h K ∉ l ∧ ∀ c, c < K → way m h c ∈ l := by
  obtain ⟨j, a, b⟩ := st_missing l (m + 1) (Nat.lt_succ_of_le hl)
  obtain ⟨k, c, d⟩ := R.meet h (Nat.le_of_lt_succ a)
  obtain ⟨K, e, f, g⟩ := st_least (p := fun k => way m h k ∉ l) k (by rw [d]; exact b)
  exact ⟨K, Nat.lt_of_le_of_lt e c, f, fun i hi => Classical.not_not.mp (g i hi)⟩
/-- a slot without owner is found -/
theorem Rnd.free (R : Rnd m) (h : Int) {owner : Array (Option Nat)} {j : Nat} (hj : j ≤ m) (hf : oAt owner j = none) : ∃ q, q ≤ m ∧ oAt owner q = none ∧ SetTable.layClean.free m owner (SetTable.turns m) (SetTable.bits h % (m + 1)) (SetTable.bits h) = some q := by
  obtain ⟨n, a, b⟩ := R.run h hj
  have at_n : way m h (off m (SetTable.bits h % (m + 1)) (SetTable.bits h) n) = j := by
    show SetTable.Probe.j _ = j
    rw [nth_off, itL_run, ← b]
    rfl
  obtain ⟨K, c, d, e⟩ := st_least (p := fun k => oAt owner (way m h k) = none) _ (at_n ▸ hf)
  refine ⟨way m h K, way_in h K, d, free_spec m owner _ n _ _ K (by unfold SetTable.turns; omega) c (fun k hk => ?_) (by rw [show oAt owner (nth m _ K).j = none from d]; rfl)⟩
  cases z : oAt owner (nth m (runAt m (SetTable.bits h % (m + 1)) (SetTable.bits h)) k).j with
  | none => exact absurd z (e k hk)
  | some _ => rfl
end
/-- n owners, each at a slot, no others -/
structure Ow (m n : Nat) (owner : Array (Option Nat)) : Prop where
  sz : owner.size = m + 1
  all : ∀ k, k < n → ∃ j, j ≤ m ∧ oAt owner j = some k
  ps : ∃ l : List Nat, l.length = n ∧ ∀ j, j ≤ m → oAt owner j ≠ none → j ∈ l
theorem Ow.more {m n : Nat} {owner : Array (Option Nat)} (R : Rnd m) (o : Ow m n owner) (hn : n ≤ m) (h : Int) : ∃ q, SetTable.layClean.free m owner (SetTable.turns m) (SetTable.bits h % (m + 1)) (SetTable.bits h) = some q ∧ Ow m (n + 1) (owner.setIfInBounds q (some n)) := by
  obtain ⟨l, l1, l2⟩ := o.ps
  obtain ⟨j, a, b⟩ := st_missing l (m + 1) (by omega)
  have hj : j ≤ m := Nat.le_of_lt_succ a
  have e : oAt owner j = none := Classical.not_not.mp fun z => b (l2 j hj z)
  obtain ⟨q, q1, q2, q3⟩ := R.free h hj e
  have qs : q < owner.size := by rw [o.sz]; omega
  refine ⟨q, q3, ⟨by rw [Array.size_setIfInBounds, o.sz], fun k hk => ?_, q :: l, by rw [List.length_cons, l1], fun i hi ne => ?_⟩⟩
  · by_cases c : k = n
    · exact ⟨q, q1, by rw [oAt_set_self _ qs, c]⟩
    · obtain ⟨i, hi, ei⟩ := o.all k (by omega)
      refine ⟨i, hi, ?_⟩
      rw [oAt_set_ne _ (fun z => by rw [z, q2] at ei; exact nomatch ei), ei]
  · by_cases c : i = q
    · rw [c]
      exact .head _
    · rw [oAt_set_ne _ c] at ne
      exact .tail _ (l2 i hi ne)
theorem lay_all' {m : Nat} (R : Rnd m) : ∀ (hs : List Int) (n : Nat) (owner : Array (Option Nat)), Ow m n owner → n + hs.length ≤ m → ∃ ow', hs.foldl (stepF m) (some (owner, n)) = some (ow', n + hs.length) ∧ Ow m (n + hs.length) ow'
  | [], n, owner, o, _ => ⟨owner, rfl, o⟩
  | h :: hs, n, owner, o, hl => by
    rw [List.length_cons] at hl
    obtain ⟨q, e, o'⟩ := o.more R (by omega) h
    obtain ⟨ow', f, g⟩ := lay_all' R hs (n + 1) _ o' (by omega)
    have en : n + 1 + hs.length = n + (h :: hs).length := by rw [List.length_cons]; omega
    rw [en] at f g
    exact ⟨ow', by rw [List.foldl_cons, stepF_some e]; exact f, g⟩
/-- a table laid anew with room for all -/
theorem relaid_any (t : SetTable) {hs : Array Int} {wanted M : Nat} (hw : SetTable.sizeAbove wanted - 1 = M) (R : Rnd M) (hn : hs.size ≤ M) :
    ∃ t' order, t.relaid hs wanted = some (t', order) ∧ order.toList.Perm (List.range hs.size) ∧ Ris t'.place.toList ∧ t'.place.size = hs.size ∧ t'.mask = M ∧ t'.led = t.led ∧ t'.dummies = #[] := by
  obtain ⟨ow, f, o⟩ := lay_all' R hs.toList 0 (Array.replicate (M + 1) none) ⟨Array.size_replicate, (fun k hk => nomatch hk), [], rfl, fun j hj ne => absurd (oAt_init hj) ne⟩ (by rw [Array.length_toList]; omega)
  rw [Nat.zero_add, Array.length_toList] at f o
  have cl : SetTable.layClean M hs = some ow := by
    rw [layClean_eq, f]
    rfl
  have hr : t.relaid hs wanted = some (tabOf t M ow, ((liveOf M ow).map (·.2)).toArray) := by
    rw [relaid_eq, hw, cl]
    rfl
  have ris := ris_live (fun j => ow.getD j none) (List.range (M + 1)) List.pairwise_lt_range
  have r1 : Ris ((liveOf M ow).map (·.1)) := ris.1
  have len : (liveOf M ow).length = hs.size := by
    obtain ⟨l, l1, l2⟩ := o.ps
    have up := nat_nodup_len _ l (List.Pairwise.imp (fun h => Nat.ne_of_lt h) r1) fun x hx => by
      obtain ⟨p, hp, rfl⟩ := List.mem_map.mp hx
      have hp' : (p.1, p.2) ∈ liveOf M ow := hp
      obtain ⟨b1, b2⟩ := (mem_live o.sz).1 hp'
      exact l2 _ b1 (by rw [b2]; exact fun z => nomatch z)
    have dn := nat_nodup_len (List.range hs.size) ((liveOf M ow).map (·.2)) List.nodup_range fun k hk => by
      obtain ⟨j, b1, b2⟩ := o.all k (List.mem_range.mp hk)
      exact List.mem_map_of_mem (f := Prod.snd) ((mem_live o.sz).2 ⟨b1, b2⟩)
    rw [List.length_map] at up dn
    rw [List.length_range] at dn
    omega
  refine ⟨_, _, hr, perm_range hs.size _ ?_ fun k hk => ?_, r1, ?_, rfl, rfl, rfl⟩
  · show (List.map _ _).length = _
    rw [List.length_map, len]
  · obtain ⟨j, b1, b2⟩ := o.all k hk
    exact List.mem_map_of_mem (f := Prod.snd) ((mem_live o.sz).2 ⟨b1, b2⟩)
  · show (List.toArray _).size = _
    rw [List.size_toArray, List.length_map, len]
theorem size_308 : SetTable.sizeAbove (SetTable.grown 77) = 512 := by decide +kernel
end Tk

set_option Elab.async false
set_option linter.all false
set_option maxRecDepth 100000
set_option maxHeartbeats 2000000
/-! Ms2: a set of tuples of None, ints and texts, by its members alone: search, add. -/
namespace Tk
open PySem PySem.Spec PyProof.Rows L2
abbrev Kk := List (Option Key)
abbrev IsR (P : Program) (w : World) (h : Heap) (k : Kk) (a : Addr) : Prop := IsTupleKey (noneKind P w) h k a
abbrev hashR (P : Program) (w : World) (k : Kk) : Int := tupleKeyHash (noneKind P w) k
/-- no item is an object -/
theorem flat_items {P : Program} {w : World} {k : Kk} {vs : List Value} (h : ItemsAre (noneKind P w) k vs) : ∀ v ∈ vs, carriedByValue v = true := h.byValue
theorem cls_flat {v : Value} (h : carriedByValue v = true) (n : Nat) : ofAClassStatement n v = pure false := by
  cases v with
  | ref a => exact nomatch h
  | _ => cases n <;> rfl
theorem byv_flat {v : Value} (h : carriedByValue v = true) (n : Nat) : ∃ b, hashByValue n v = pure b := by
  cases v with
  | ref a => exact nomatch h
  | _ => exact ⟨_, by cases n <;> rfl⟩
section
variable {P : Program} {w : World} {A : Around} {E : Value → Shared → Prop} {s : Shared}
theorem clsR {k : Kk} {b : Addr} {Q : Bool → Shared → Prop} (hk : IsR P w s.heap k b) (q : Q false s) : wpAny (model P w) A (ofAClassStatement 8 (.ref b)) Q E s := by
  have ty := hk.typeIs
  obtain ⟨o, its, n, ho, _, hd, hi⟩ := hk
  unfold ofAClassStatement
  refine wpAny_bind (wpAny_typeOf ty ?_)
  dsimp only
  simp only [show (("tuple" : String) == "tuple") = true by decide, if_true, Bool.not_true, Bool.false_eq_true, if_false]
  try refine wpAny_bind (wpAny_pure ?_)
  try simp only [Bool.not_true, Bool.false_eq_true, if_false]
  show wpAny _ _ (seqItems? (Value.ref b) >>= _) _ _ s
  refine wpAny_bind (wpAny_seqItems ho hd ?_)
  dsimp only
  refine wpAny_bind ?_
  show wpAny _ _ (forIn its _ _) _ _ s
  rw [← Array.forIn_toList]
  refine wpAny_forIn_list _ (fun r x s1 => x.1 = none ∧ s1 = s ∧ ∀ v ∈ r, carriedByValue v = true) _ ?_ ?_ _ _ ⟨rfl, rfl, flat_items hi⟩
  · rintro v r x s1 ⟨_, rfl, al⟩
    rw [cls_flat (al v List.mem_cons_self)]
    refine wpAny_bind (wpAny_pure ?_)
    rw [if_neg (show ¬ (false = true) by decide)]
    exact wpAny_pure ⟨rfl, rfl, fun u hu => al u (.tail _ hu)⟩
  · rintro ⟨x1, x2⟩ s1 ⟨e, rfl, _⟩
    have e : x1 = none := e
    subst e
    exact wpAny_pure q
theorem byvR {k : Kk} {b : Addr} {Q : Bool → Shared → Prop} (hk : IsR P w s.heap k b) (q : ∀ c, Q c s) : wpAny (model P w) A (hashByValue 8 (.ref b)) Q E s := by
  have ty := hk.typeIs
  obtain ⟨o, its, n, ho, _, hd, hi⟩ := hk
  unfold hashByValue
  refine wpAny_bind (wpAny_specialOf ty F.slot_tuple_hash.lookup ?_)
  show wpAny _ _ (seqItems? (Value.ref b) >>= _) _ _ s
  refine wpAny_bind (wpAny_seqItems ho hd ?_)
  refine wpAny_bind ?_
  show wpAny _ _ (forIn its _ _) _ _ s
  rw [← Array.forIn_toList]
  refine wpAny_forIn_list _ (fun r x s1 => s1 = s ∧ ∀ v ∈ r, carriedByValue v = true) _ ?_ ?_ _ _ ⟨rfl, flat_items hi⟩
  · rintro v r x s1 ⟨rfl, al⟩
    obtain ⟨c, e⟩ := byv_flat (al v List.mem_cons_self) 7
    rw [e]
    refine wpAny_bind (wpAny_pure ?_)
    cases c with
    | true =>
      rw [if_neg (show ¬ ((!true) = true) by decide)]
      exact wpAny_pure ⟨rfl, fun u hu => al u (.tail _ hu)⟩
    | false =>
      rw [if_pos (show (!false) = true by decide)]
      exact wpAny_pure (wpAny_pure (q false))
  · rintro ⟨x1, x2⟩ s1 ⟨rfl, _⟩
    cases x1 with
    | none => exact wpAny_pure (q true)
    | some c => exact wpAny_pure (q c)
end
end Tk

set_option Elab.async false
set_option linter.all false
set_option maxRecDepth 100000
set_option maxHeartbeats 2000000
/-! Ms3: searching and adding in such a set. -/
namespace Tk
open PySem PySem.Spec PyProof.Rows L2
abbrev Rows := List (Addr × Kk)
/-- the set at a: its members are rows of ks, the keys of D are met -/
structure SetM (P : Program) (w : World) (h : Heap) (a : Addr) (ks : Rows) (D : List Kk) (es : Array (Int × Value)) (ep : Nat) (t : SetTable) : Prop where
  ob : ∃ o, h.get? a = some o ∧ o.ExactSet ∧ o.data = .set es ep t
  sound : ∀ e ∈ es.toList, ∃ p ∈ ks, e.2 = Value.ref p.1
  full : ∀ k ∈ D, ∃ e ∈ es.toList, ∃ p ∈ ks, e.2 = Value.ref p.1 ∧ p.2 = k
  tup : ∀ p ∈ ks, IsR P w h p.2 p.1
  ris : Ris t.place.toList
  dm : t.dummies = #[]
  sz : t.place.size = es.size
  msk : M4 t.mask
  led : w.params.followText "set-order" = true ∨ t.led = true
  room : es.size * 5 < t.mask * 3
section
variable {P : Program} {w : World} {A : Around} {E : Value → Shared → Prop} {s : Shared} {a : Addr} {ks : Rows} {D : List Kk} {es : Array (Int × Value)} {ep : Nat} {t : SetTable}
theorem fits_of (sz : t.place.size = es.size) (dm : t.dummies = #[]) (le : es.size ≤ t.mask) : t.fits es.size = true := by
  unfold SetTable.fits SetTable.fill
  rw [dm, Bool.and_eq_true, beq_iff_eq, decide_eq_true_eq]
  exact ⟨sz, by show t.place.size + 0 ≤ t.mask; omega⟩
theorem SetM.fits (R : SetM P w s.heap a ks D es ep t) : t.fits es.size = true := fits_of R.sz R.dm (by have := R.room; omega)
theorem SetM.gw (R : SetM P w s.heap a ks D es ep t) : ¬ t.gaveWay = true := by
  unfold SetTable.gaveWay
  rw [R.msk.odd]
  decide
/-- the search among such rows shows nothing -/
theorem seenR {k : Kk} {b : Addr} {Q : Bool → Shared → Prop} (hk : IsR P w s.heap k b) {ys : List Value} (hy : ∀ y ∈ ys, ∃ k' c, y = Value.ref c ∧ IsR P w s.heap k' c) (q : Q false s) :
    wpAny (model P w) A (searchCouldBeSeen (.ref b) ys) Q E s := by
  unfold searchCouldBeSeen
  refine wpAny_bind ?_
  refine wpAny_forIn_list _ (fun r x s1 => x.1 = none ∧ s1 = s ∧ ∀ y ∈ r, ∃ k' c, y = Value.ref c ∧ IsR P w s.heap k' c) _ ?_ ?_ _ _ ⟨rfl, rfl, hy⟩
  · rintro v r x s1 ⟨_, rfl, al⟩
    obtain ⟨k', c, rfl, hc⟩ := al v List.mem_cons_self
    have al' : ∀ y ∈ r, ∃ k' c, y = Value.ref c ∧ IsR P w s1.heap k' c := fun u hu => al u (.tail _ hu)
    dsimp only
    by_cases hv : (b == c || (carriedByValue (.ref b) && carriedByValue (.ref c))) = true
    · exact wp_if_pos hv (wpAny_pure ⟨rfl, rfl, al'⟩)
    · refine wp_if_neg hv (wpAny_bind (wpAny_eqIsQuiet_tuple hk ?_))
      rw [if_neg (show ¬ ((!true) = true) by decide)]
      refine wpAny_bind (wpAny_eqIsQuiet_tuple hc ?_)
      rw [if_neg (show ¬ ((!true) = true) by decide)]
      refine wpAny_bind (clsR hk ?_)
      rw [if_neg (show ¬ (false = true) by decide)]
      refine wpAny_bind (clsR hc ?_)
      rw [if_neg (show ¬ (false = true) by decide)]
      exact wpAny_pure ⟨rfl, rfl, al'⟩
  · rintro ⟨x1, x2⟩ s1 ⟨e, rfl, _⟩
    have e : x1 = none := e
    subst e
    exact wpAny_pure q
/-- a search from its c-th step on -/
theorem seek (R : SetM P w s.heap a ks D es ep t) {x : Addr} {k : Kk} (hx : IsR P w s.heap k x) (hu : A.units < cLine) {hv : Int} {K : Nat} (hKf : K < 10 * SetTable.turns t.mask)
    (hK : way t.mask hv K ∉ t.place.toList) (hKb : ∀ c, c < K → way t.mask hv c ∈ t.place.toList) {Q : SetFound → Shared → Prop}
    (hin : (∃ e ∈ es.toList, ∃ p ∈ ks, e.2 = Value.ref p.1 ∧ p.2 = k) → Q (.there none) s) (hout : Q (.free (way t.mask hv K) false) s) :
    ∀ (f c : Nat) (stand : Option SetTable.Probe), stand.getD (t.probeStart hv) = nth t.mask (runAt t.mask (SetTable.bits hv % (t.mask + 1)) (SetTable.bits hv)) c → c ≤ K → K - c < f →
      wpAny (model P w) A (setSearchFrom a (.ref x) hv true f stand) Q E s
  | 0, c, _, _, _, hf => absurd hf (Nat.not_lt_zero _)
  | f + 1, c, stand, hst, hc, hf => by
    obtain ⟨o, ho, hex, hd⟩ := R.ob
    rw [setSearchFrom_succ]
    refine wpAny_bind (wpAny_setState_of ho hd R.fits ?_)
    dsimp only
    refine wp_if_neg R.gw ?_
    try refine wpAny_bind (wpAny_pure ?_)
    have nod : ∀ (n : Nat) (p : SetTable.Probe), p.dummy = none → (nth t.mask p n).dummy = none := fun n => by
      induction n with
      | zero => exact fun p h => h
      | succ n ih =>
        refine fun p h => ih (adv t.mask p) ?_
        unfold adv
        split <;> exact h
    have sh : ∀ q, (nth t.mask (nth t.mask (runAt t.mask (SetTable.bits hv % (t.mask + 1)) (SetTable.bits hv)) c) q).j = way t.mask hv (c + q) := fun q => by rw [← nth_add]
    rcases go_spec t R.ris R.dm (fun i => (es[i]?.map (·.1)).getD 0) hv (10 * SetTable.turns t.mask) (K - c) _ (nod c (runAt t.mask (SetTable.bits hv % (t.mask + 1)) (SetTable.bits hv)) rfl) (by omega)
      (fun q hq => by rw [sh]; exact hKb _ (by omega)) (by rw [sh, Nat.add_sub_cancel' hc]; exact hK) with ⟨q, i, hq, hi, _, _, hpr⟩ | ⟨_, hpr⟩
    · -- a candidate
      have hpr2 : t.probe (fun i => (es[i]?.map (·.1)).getD 0) hv (stand.getD (t.probeStart hv)) = some (.candidate (way t.mask hv (c + q)) i (nth t.mask (runAt t.mask (SetTable.bits hv % (t.mask + 1)) (SetTable.bits hv)) (c + (q + 1)))) := by
        rw [hst, ← sh, nth_add t.mask c _ (q + 1)]
        exact hpr
      rw [hpr2]
      dsimp only
      rw [sh] at hi
      have hil : i < es.size := by
        have := (List.getElem?_eq_some_iff.mp hi).1
        rw [Array.length_toList, R.sz] at this
        exact this
      have hee : es[i]? = some es[i] := Array.getElem?_eq_getElem hil
      have hem : es[i] ∈ es.toList := by simp
      obtain ⟨p, hp, ep'⟩ := R.sound _ hem
      have hpt := R.tup p hp
      generalize hge : es[i] = ei at hee hem ep'
      obtain ⟨eh, ev⟩ := ei
      have ep2 : ev = Value.ref p.1 := ep'
      subst ep2
      have rest : wpAny (model P w) A (searchRest a (.ref x) hv true f es t (way t.mask hv (c + q)) i (nth t.mask (runAt t.mask (SetTable.bits hv % (t.mask + 1)) (SetTable.bits hv)) (c + (q + 1)))) Q E s := by
        unfold searchRest
        rw [hee]
        dsimp only
        refine wpAny_bind (wpAny_holding (wpAny_eqBool_tuple hu hpt hx ?_))
        refine wpAny_bind (wpAny_setState_of ho hd R.fits ?_)
        dsimp only
        by_cases same : p.2 = k
        · rw [decide_eq_true same]
          exact wp_if_pos rfl (wpAny_pure (hin ⟨_, hem, p, hp, rfl, same⟩))
        · rw [decide_eq_false same]
          refine wp_if_neg (by decide) ?_
          try refine wpAny_bind (wpAny_pure ?_)
          rw [sameMem]
          dsimp only
          have hsl : t.slot (way t.mask hv (c + q)) = .live i := slot_live R.ris hi
          simp only [if_true, hsl, hee]
          refine wpAny_bind (wpAny_isSame_ref_self (wpAny_bind (wpAny_pure ?_)))
          simp only [if_true]
          refine wp_if_neg (by decide) ?_
          exact seek R hx hu hKf hK hKb hin hout f (c + (q + 1)) _ rfl (by omega) (by omega)
      by_cases hl : t.led = true
      · refine wp_if_neg (by rw [hl]; decide) ?_
        try refine wpAny_bind (wpAny_pure ?_)
        exact rest
      · refine wp_if_pos (by simp [hl]) ?_
        refine wpAny_bind (seenR hx (fun y hy => ?_) (wp_if_neg (by decide) ?_))
        · obtain ⟨e, he, rfl⟩ := List.mem_map.mp hy
          have he2 : e ∈ es.toList := by
            have := Array.mem_filter.mp (Array.mem_toList_iff.mp he)
            simpa using this.1
          obtain ⟨p2, hp2, e2⟩ := R.sound e he2
          exact ⟨p2.2, p2.1, e2, R.tup p2 hp2⟩
        · try refine wpAny_bind (wpAny_pure ?_)
          exact rest
    · -- the first empty slot
      have hpr2 : t.probe (fun i => (es[i]?.map (·.1)).getD 0) hv (stand.getD (t.probeStart hv)) = some (.empty (way t.mask hv K) none) := by
        have e2 := sh (K - c)
        rw [Nat.add_sub_cancel' hc] at e2
        rw [hst, ← e2]
        exact hpr
      rw [hpr2]
      exact wpAny_pure hout
theorem search_m (R : SetM P w s.heap a ks D es ep t) {x : Addr} {k : Kk} (hx : IsR P w s.heap k x) (hu : A.units < cLine) (hv : Int) {Q : SetFound → Shared → Prop}
    (hin : (∃ e ∈ es.toList, ∃ p ∈ ks, e.2 = Value.ref p.1 ∧ p.2 = k) → Q (.there none) s) (hout : ∀ j, j ∉ t.place.toList → Q (.free j false) s) : wpAny (model P w) A (setSearch a (.ref x) hv true) Q E s := by
  have room := R.room
  obtain ⟨K, k1, k2, k3⟩ := R.msk.rnd.first hv (l := t.place.toList) (by rw [Array.length_toList, R.sz]; omega)
  have big : K < 100000 := by
    unfold SetTable.turns at k1
    rcases R.msk with e | e | e | e <;> omega
  exact seek R hx hu k1 k2 k3 hin (hout _ k2) 100000 0 none rfl (Nat.zero_le _) (by omega)
end
end Tk

set_option Elab.async false
set_option linter.all false
set_option maxRecDepth 100000
set_option maxHeartbeats 2000000
/-! Ms4: adding to such a set, set(a list of rows). -/
namespace Tk
open PySem PySem.Spec PyProof.Rows L2
section
variable {P : Program} {w : World} {A : Around} {E : Value → Shared → Prop} {s : Shared} {a : Addr} {ks : Rows} {D : List Kk} {es : Array (Int × Value)} {ep : Nat} {t : SetTable}
theorem isR_same {h h' : Heap} {k : Kk} {b : Addr} {o : Obj} (hb : IsR P w h k b) (ho : h.get? a = some o) (hd : o.data = .set es ep t) (sb : Heap.SameBut a h h') : IsR P w h' k b := by
  obtain ⟨u, its, n, hu, hc, dat, hi⟩ := hb
  refine ⟨u, its, n, (sb.2 b fun z => ?_).trans hu, hc, dat, hi⟩
  rw [z, ho] at hu
  cases hu
  rw [hd] at dat
  exact nomatch dat
theorem isR_keep {h h' : Heap} {k : Kk} {b : Addr} (x : IsR P w h k b) (hk : ∀ c o, h.get? c = some o → h'.get? c = some o) : IsR P w h' k b := by
  obtain ⟨o, its, n, ho, r⟩ := x
  exact ⟨o, its, n, hk _ _ ho, r⟩
/-- a larger table -/
theorem relay_m {o : Obj} (ho : s.heap.get? a = some o) (hex : o.ExactSet) (hd : o.data = .set es ep t) (hsz : t.place.size = es.size) (hdm : t.dummies = #[]) (hfl : es.size ≤ t.mask)
    (sound : ∀ e ∈ es.toList, ∃ p ∈ ks, e.2 = Value.ref p.1) (full : ∀ k ∈ D, ∃ e ∈ es.toList, ∃ p ∈ ks, e.2 = Value.ref p.1 ∧ p.2 = k) (tup : ∀ p ∈ ks, IsR P w s.heap p.2 p.1)
    (ld : w.params.followText "set-order" = true ∨ t.led = true) {wanted M : Nat} (hw : SetTable.sizeAbove wanted - 1 = M) (hM : M4 M) (hw2 : SetTable.sizeAbove wanted ≤ 512) (hn : es.size * 5 < M * 3) {Q : Unit → Shared → Prop}
    (hQ : ∀ h' es' ep' t', Heap.SameBut a s.heap h' → SetM P w h' a ks D es' ep' t' → es'.size = es.size → Q () { s with heap := h' }) : wpAny (model P w) A (setRelay a wanted) Q E s := by
  obtain ⟨t', order, e, hp, ris, hsz2, hmk, hld, hdm2⟩ := relaid_any t (hs := es.map (·.1)) (wanted := wanted) hw hM.rnd (by rw [Array.size_map]; omega)
  rw [Array.size_map] at hp hsz2
  have lt : ∀ i ∈ order.toList, i < es.size := fun i hi => List.mem_range.mp (hp.mem_iff.mp hi)
  have fm : (order.filterMap (es[·]?)).toList = order.toList.filterMap (es[·]?) := by
    first | exact Array.toList_filterMap | (rw [Array.toList_filterMap]) | simp
  have memb : ∀ x, x ∈ order.toList.filterMap (fun i => es[i]?) ↔ x ∈ es.toList := fun x => by
    rw [List.mem_filterMap]
    constructor
    · rintro ⟨i, hi, hx⟩
      exact Array.mem_toList_iff.mpr (Array.mem_of_getElem? hx)
    · intro hx
      obtain ⟨i, hi, hx⟩ := List.getElem_of_mem hx
      rw [Array.length_toList] at hi
      exact ⟨i, hp.mem_iff.mpr (List.mem_range.mpr hi), by rw [← hx]; exact Array.getElem?_eq_getElem hi⟩
  have all_some : ∀ l : List Nat, (∀ i ∈ l, i < es.size) → (l.filterMap fun i => es[i]?).length = l.length := fun l => by
    induction l with
    | nil => exact fun _ => rfl
    | cons i l ih =>
      intro hl
      rw [List.filterMap_cons_some (Array.getElem?_eq_getElem (hl i (.head _))), List.length_cons, List.length_cons, ih fun j hj => hl j (.tail _ hj)]
  have size2 : (order.filterMap (es[·]?)).size = es.size := by
    rw [← Array.length_toList, fm, all_some _ lt, hp.length_eq, List.length_range]
  rw [setRelay_eq]
  refine wpAny_bind (wpAny_setState_of ho hd (fits_of hsz hdm hfl) ?_)
  dsimp only
  refine wp_if_neg (by rw [sizeLine_eq]; omega) ?_
  try refine wpAny_bind (wpAny_pure ?_)
  rw [e]
  dsimp only
  refine wpAny_bind (wp_if_neg (by rw [size2]; simp) ?_)
  try refine wpAny_bind (wpAny_pure ?_)
  refine wpAny_pure ?_
  dsimp only
  have few : es.size ≤ 512 := by
    rcases hM with z | z | z | z <;> omega
  refine wpAny_storeSet_of ho hd ?_ (by rw [size2, sizeLine_eq]; omega)
  have sb : Heap.SameBut a s.heap (s.heap.update a (Obj.putSet (order.filterMap (es[·]?)) t')) := Heap.SameBut.update ..
  refine hQ _ _ _ _ sb ⟨⟨_, store_at ho hd, ⟨hex.1, hex.2.1, hex.2.2⟩, rfl⟩, fun x hx => ?_, fun k hk => ?_, fun p hp => isR_same (tup p hp) ho hd sb, ris, hdm2, by rw [size2, hsz2], by rw [hmk]; exact hM, by rw [hld]; exact ld, by rw [size2, hmk]; exact hn⟩ size2
  · rw [fm] at hx
    exact sound x ((memb x).mp hx)
  · obtain ⟨x, hx, r⟩ := full k hk
    exact ⟨x, by rw [fm]; exact (memb x).mpr hx, r⟩
/-- adding a row -/
theorem add_m (R : SetM P w s.heap a ks D es ep t) {x : Addr} {k : Kk} (hm : (x, k) ∈ ks) (hu : A.units < cLine) (hfew : es.size < 300) (hv : Int) {Q : Bool → Shared → Prop}
    (hQ : ∀ b h' es' ep' t', Heap.SameBut a s.heap h' → SetM P w h' a ks (k :: D) es' ep' t' → es'.size ≤ es.size + 1 → Q b { s with heap := h' }) :
    wpAny (model P w) A (setAddHashed a (.ref x) hv) Q E s := by
  have hx := R.tup _ hm
  obtain ⟨o, ho, hex, hd⟩ := R.ob
  have room := R.room
  unfold setAddHashed
  refine wpAny_holding ?_
  rw [show (100000 : Nat) = 99999 + 1 from rfl, setAddHashedIn_succ]
  refine wpAny_bind (wpAny_setState_of ho hd R.fits ?_)
  dsimp only
  refine wp_if_neg (by simp [byScan, Value.scannable]) ?_
  try refine wpAny_bind (wpAny_pure ?_)
  refine wpAny_bind (search_m R hx hu hv (fun there => ?_) fun j hj => ?_)
  · refine wpAny_pure (hQ false s.heap es ep t (Heap.SameBut.refl a s.heap) ⟨R.ob, R.sound, fun k' hk' => ?_, R.tup, R.ris, R.dm, R.sz, R.msk, R.led, R.room⟩ (Nat.le_succ _))
    rcases List.mem_cons.mp hk' with z | z
    · rw [z]
      exact there
    · exact R.full k' z
  · dsimp only
    refine wpAny_bind (wpAny_setState_of ho hd R.fits ?_)
    dsimp only
    have npl : t.place[SetTable.below t.place j]? ≠ some j := fun z => hj (Array.mem_toList_iff.mpr (Array.mem_of_getElem? z))
    have hlp : SetTable.below t.place j ≤ t.place.toList.length := by
      rw [Array.length_toList]
      exact (below_cut R.ris j).1
    have q1 : Ris (t.put j).1.place.toList := ris_insert R.ris npl
    have q2 : (t.put j).1.dummies = #[] := put_dm R.dm j
    have q3 : (t.put j).1.place.size = es.size + 1 := by
      rw [← Array.length_toList, put_place, len_ins _ hlp, Array.length_toList, R.sz]
    have q4 : (t.put j).1.mask = t.mask := rfl
    have q5 : (t.put j).1.led = t.led := rfl
    have q6 : (t.put j).2 = SetTable.below t.place j := rfl
    have hle : SetTable.below t.place j ≤ es.toList.length := by
      rw [Array.length_toList, ← R.sz, ← Array.length_toList]
      exact hlp
    generalize t.put j = pt at q1 q2 q3 q4 q5 q6 ⊢
    obtain ⟨t1, p⟩ := pt
    dsimp only at q1 q2 q3 q4 q5 q6 ⊢
    subst q6
    -- by value or not: only the mark plain turns on it
    have on : ∀ t2 : SetTable, Ris t2.place.toList → t2.dummies = #[] → t2.place.size = es.size + 1 → t2.mask = t.mask → t2.led = t.led → wpAny (model P w) A (do
        storeSet a (SetTable.insertAt es (SetTable.below t.place j) (hv, Value.ref x)) t2
        if (!false && t2.tooFull) = true then setRelay a (SetTable.grown (es.size + 1))
        return true) Q E s := fun t2 r1 r2 r3 r4 r5 => by
      have inn : (SetTable.insertAt es (SetTable.below t.place j) (hv, Value.ref x)).toList = es.toList.take (SetTable.below t.place j) ++ (hv, Value.ref x) :: es.toList.drop (SetTable.below t.place j) := SetTable.toList_insertAt _ _ _
      have sz1 : (SetTable.insertAt es (SetTable.below t.place j) (hv, Value.ref x)).size = es.size + 1 := by
        rw [← Array.length_toList, inn, len_ins _ hle, Array.length_toList]
      generalize SetTable.insertAt es (SetTable.below t.place j) (hv, Value.ref x) = es1 at inn sz1 ⊢
      have sound1 : ∀ e ∈ es1.toList, ∃ p ∈ ks, e.2 = Value.ref p.1 := fun e he => by
        rw [inn] at he
        rcases mem_ins.1 he with z | z
        · exact ⟨_, hm, by rw [z]⟩
        · exact R.sound e z
      have full1 : ∀ k' ∈ k :: D, ∃ e ∈ es1.toList, ∃ p ∈ ks, e.2 = Value.ref p.1 ∧ p.2 = k' := fun k' hk' => by
        rw [inn]
        rcases List.mem_cons.mp hk' with z | z
        · exact ⟨_, mem_ins.2 (.inl rfl), _, hm, rfl, z.symm⟩
        · obtain ⟨e, he, r⟩ := R.full k' z
          exact ⟨e, mem_ins.2 (.inr he), r⟩
      refine wpAny_bind (wpAny_storeSet_of ho hd ?_ (by rw [sz1, sizeLine_eq]; omega))
      have sb : Heap.SameBut a s.heap (s.heap.update a (Obj.putSet es1 t2)) := Heap.SameBut.update ..
      have ho1 := store_at (es' := es1) (t' := t2) ho hd
      generalize s.heap.update a (Obj.putSet es1 t2) = h1 at sb ho1 ⊢
      have tup1 : ∀ p ∈ ks, IsR P w h1 p.2 p.1 := fun p hp => isR_same (R.tup p hp) ho hd sb
      have ld1 : w.params.followText "set-order" = true ∨ t2.led = true := by rw [r5]; exact R.led
      have fill : t2.fill = es.size + 1 := by
        unfold SetTable.fill
        rw [r2, r3]
        rfl
      have tf : t2.tooFull = decide ((es.size + 1) * 5 ≥ t.mask * 3) := by
        unfold SetTable.tooFull
        rw [fill, r4]
      by_cases hf : (es.size + 1) * 5 ≥ t.mask * 3
      · rw [tf, decide_eq_true hf]
        first
          | (refine wpAny_bind (wp_if_pos (by decide) ?_))
          | (refine wp_if_pos (by decide) (wpAny_bind ?_))
        have go : ∀ M, SetTable.sizeAbove (SetTable.grown (es.size + 1)) - 1 = M → M4 M → SetTable.sizeAbove (SetTable.grown (es.size + 1)) ≤ 512 → (es.size + 1) * 5 < M * 3 →
            wpAny (model P w) A (setRelay a (SetTable.grown (es.size + 1))) (fun _ s' => wpAny (model P w) A (pure true) Q E s') E { s with heap := h1 } := fun M m1 m2 m3 m4 => by
          refine relay_m (s := { s with heap := h1 }) ho1 ⟨hex.1, hex.2.1, hex.2.2⟩ rfl (by rw [r3, sz1]) r2 (by rw [sz1, r4]; omega) sound1 full1 tup1 ld1 m1 m2 m3 (by rw [sz1]; exact m4) ?_
          intro h2 es2 ep2 t3 sb2 R2 e2
          exact wpAny_pure (hQ true h2 es2 ep2 t3 (sb.trans sb2) R2 (by rw [e2, sz1]; exact Nat.le_refl _))
        rcases R.msk with e | e | e | e
        · have : es.size = 4 := by omega
          exact go 31 (by rw [this, size_20]) (.inr (.inl rfl)) (by rw [this, size_20]; decide) (by omega)
        · have : es.size = 18 := by omega
          exact go 127 (by rw [this, size_76]) (.inr (.inr (.inl rfl))) (by rw [this, size_76]; decide) (by omega)
        · have : es.size = 76 := by omega
          exact go 511 (by rw [this, size_308]) (.inr (.inr (.inr rfl))) (by rw [this, size_308]; decide) (by omega)
        · omega
      · rw [tf, decide_eq_false hf]
        first
          | (refine wp_if_neg (by decide) ?_)
          | (refine wpAny_bind (wp_if_neg (by decide) (wpAny_pure ?_)))
        exact wpAny_pure (hQ true h1 es1 (ep + 1) t2 sb ⟨⟨_, ho1, ⟨hex.1, hex.2.1, hex.2.2⟩, rfl⟩, sound1, full1, tup1, r1, r2, by rw [r3, sz1], by rw [r4]; exact R.msk, ld1, by rw [sz1, r4]; omega⟩ (by rw [sz1]; exact Nat.le_refl _))
    cases hpl : t1.plain with
    | true =>
      first
        | refine wpAny_bind (wp_if_pos rfl (byvR hx fun c => ?_))
        | refine wp_if_pos rfl (wpAny_bind (byvR hx fun c => ?_))
      cases c with
      | true => exact on t1 q1 q2 q3 q4 q5
      | false => exact on _ q1 q2 q3 q4 q5
    | false =>
      first
        | refine wpAny_bind (wp_if_neg (by decide) (wpAny_pure ?_))
        | refine wp_if_neg (by decide) (wpAny_bind (wpAny_pure ?_))
      exact on t1 q1 q2 q3 q4 q5
end
end Tk

set_option Elab.async false
set_option linter.all false
set_option maxRecDepth 100000
set_option maxHeartbeats 4000000
/-! Ms5: set(a list of rows). -/
namespace Tk
open PySem PySem.Spec PyProof.Rows L2
section
variable {P : Program} {w : World} {A : Around} {E : Value → Shared → Prop} {s : Shared} {a : Addr} {ks : Rows}
theorem SetM.keep {h h' : Heap} {D : List Kk} {es : Array (Int × Value)} {ep : Nat} {t : SetTable} (R : SetM P w h a ks D es ep t) (ha : ∀ o, h.get? a = some o → h'.get? a = some o) (ht : ∀ p ∈ ks, IsR P w h' p.2 p.1) : SetM P w h' a ks D es ep t := by
  obtain ⟨o, ho, r⟩ := R.ob
  exact ⟨⟨o, ha o ho, r⟩, R.sound, R.full, ht, R.ris, R.dm, R.sz, R.msk, R.led, R.room⟩
abbrev nset (w : World) : Obj := { cls := .type "set", dict := none, data := .set #[] 0 (.fresh 0 0 (!w.params.followText "set-order")) }
/-- a set just laid -/
theorem setM_new {h : Heap} (ho : h.get? a = some { cls := .type "set", dict := none, data := .set #[] 0 (.fresh 0 0 (!w.params.followText "set-order")) }) (tup : ∀ p ∈ ks, IsR P w h p.2 p.1) : SetM P w h a ks [] #[] 0 (.fresh 0 0 (!w.params.followText "set-order")) where
  ob := ⟨_, ho, ⟨rfl, rfl, rfl⟩, rfl⟩
  sound := fun e he => by simp at he
  full := fun k hk => nomatch hk
  tup := tup
  ris := List.Pairwise.nil
  dm := rfl
  sz := rfl
  msk := .inl rfl
  led := by
    cases c : w.params.followText "set-order" with
    | true => exact .inl rfl
    | false => exact .inr rfl
  room := by
    show 0 * 5 < 7 * 3
    decide
/-- set.update's loop over such rows -/
theorem upd_m {I : Addr} {fp wr : List Addr} {G : Array GenState → Array GenState → Prop} {n : Nat} {Pv : Nat → Value → Prop} {St : Nat → Shared → Prop} {R : Result → Shared → Prop}
    (W : WalksS P w A.in1 I fp wr G n Pv St) (S : Addr) (hSf : S ∉ fp) (hn : n = ks.length) (hfew : ks.length < 300) (hval : ∀ i v, Pv i v → ∃ p, ks[i]? = some p ∧ v = .ref p.1)
    (h0 : Heap) (hk : ∀ p ∈ ks, IsR P w h0 p.2 p.1) (hS0 : h0.get? S = none) (hw0 : ∀ b ∈ wr, h0.get? b = none) (hu : A.in1.units < cLine) :
    ∀ (k i : Nat) (s : Shared), n - i = k → i ≤ n → St i s → (∀ b o, h0.get? b = some o → s.heap.get? b = some o) → (∃ D es ep t, SetM P w s.heap S ks D es ep t ∧ es.size ≤ i ∧ ∀ p ∈ ks.take i, p.2 ∈ D) →
      (∀ s' D es ep t, Moved (S :: wr) G s s' → SetM P w s'.heap S ks D es ep t → es.size ≤ n → (∀ p ∈ ks.take n, p.2 ∈ D) → (∀ b o, h0.get? b = some o → s'.heap.get? b = some o) → R (.ok (.ret .none)) s') →
      codeAny (model P w) A (.builtin "set.update.loop" ⟨[.ref S, .ref I], []⟩) R s := by
  have Sw : S ∉ wr := fun h => hSf (W.sub _ h)
  have mv : ∀ {s s' : Shared}, Moved wr G s s' → (∀ b o, h0.get? b = some o → s.heap.get? b = some o) → ∀ b o, h0.get? b = some o → s'.heap.get? b = some o := fun hm q b o e =>
    hm.heap b o (fun z => by rw [hw0 b z] at e; exact nomatch e) (q b o e)
  intro k
  induction k with
  | zero =>
    intro i s hk' hi hst hkp ⟨D, es, ep, t, hS, sz, all⟩ hR
    obtain rfl : i = n := by omega
    refine codeAny_builtin F.entry_set_update_loop ?_
    rw [Around.under_plainId F.plain_set_update_loop _]
    show wpAny _ A.in1 (pyNext (Value.ref I) >>= _) _ _ s
    refine wpAny_bind (W.done s _ _ hst fun s' hm => ?_)
    have q := mv hm hkp
    exact wpAny_pure (hR s' D es ep t (hm.mono fun b hb => .tail _ hb) (hS.keep (fun o e => hm.heap S o Sw e) fun p hp => isR_keep (hk p hp) q) sz all q)
  | succ k ih =>
    intro i s hk' hi hst hkp ⟨D, es, ep, t, hS, sz, all⟩ hR
    have lt : i < n := by omega
    refine codeAny_builtin F.entry_set_update_loop ?_
    rw [Around.under_plainId F.plain_set_update_loop _]
    show wpAny _ A.in1 (pyNext (Value.ref I) >>= _) _ _ s
    refine wpAny_bind (W.item i s _ _ lt hst fun v s' hP hst' hm => ?_)
    obtain ⟨p, hp, rfl⟩ := hval i v hP
    have q := mv hm hkp
    have hS' : SetM P w s'.heap S ks D es ep t := hS.keep (fun o e => hm.heap S o Sw e) fun p hp => isR_keep (hk p hp) q
    have hx := hS'.tup p (List.mem_of_getElem? hp)
    show wpAny _ A.in1 (holding [Value.ref p.1] (setAdd S (Value.ref p.1)) >>= _) _ _ s'
    refine wpAny_bind (wpAny_holding ?_)
    unfold setAdd
    refine wpAny_holding ?_
    refine wpAny_bind (wpAny_pyHash_tuple hu hx ?_)
    refine add_m (s := { s' with toks := s'.toks + (p.2.length + 1) }) hS' (List.mem_of_getElem? hp) hu (by omega) _ fun b h' es' ep' t' sb hS2 sz2 => ?_
    have q2 : ∀ b o, h0.get? b = some o → h'.get? b = some o := fun b o e => (sb.2 b fun z => by rw [z, hS0] at e; exact nomatch e).trans (q b o e)
    refine wpAny_pure ⟨plainId_quiet F.plain_set_update_loop _, ih (i + 1) _ (by omega) lt (W.frame _ s' _ _ hst' (Nat.le_add_right _ _) fun b hb o e => ?_) q2 ⟨_, es', ep', t', hS2, by omega, fun p' hp' => ?_⟩ fun s2 D2 es2 ep2 t2 hm2 hS3 sz3 all3 q3 => ?_⟩
    · exact (sb.2 b fun z => hSf (z ▸ hb)).trans e
    · rw [List.take_add_one, hp] at hp'
      rcases List.mem_append.mp hp' with z | z
      · exact .tail _ (all p' z)
      · rw [List.mem_singleton.mp z]
        exact .head _
    · exact hR s2 D2 es2 ep2 t2 (Moved.trans W.gtrans ((hm.mono fun b hb => .tail _ hb).then_heap (Nat.le_add_right _ _) fun b o hb e => (sb.2 b fun z => hb (z ▸ .head _)).trans e) hm2) hS3 sz3 all3 q3

set_option maxHeartbeats 6400000 in
/-- set(a list of rows) -/
theorem call_set_m {l : Addr} {items : Array Value} {Q : Value → Shared → Prop} (hh : A.handled = none) (hl : s.heap.IsList l items) (hit : items.toList = ks.map fun p => Value.ref p.1)
    (hk : ∀ p ∈ ks, IsR P w s.heap p.2 p.1) (hfew : ks.length < 300) (hu : A.units + 3 < cLine)
    (hQ : ∀ (h' : Heap) (tk : Nat) D es ep t, SetM P w h' s.heap.objs.size ks D es ep t → es.size ≤ ks.length → (∀ p ∈ ks, p.2 ∈ D) → (∀ b o, s.heap.get? b = some o → h'.get? b = some o) → Q (.ref s.heap.objs.size) { s with heap := h', toks := tk }) :
    wpAny (model P w) A (call (.type "set") [.ref l]) Q E s := by
  have len : items.size = ks.length := by
    have := congrArg List.length hit
    rwa [Array.length_toList, List.length_map] at this
  obtain ⟨c, tl, hmro⟩ := F.called_set.mro
  have hmade := F.called_set.made
  have hsub := F.called_set.sub
  refine wpAny_call (codeAny_of_tree ?_)
  show wpAny _ _ (callAny (Value.type "set") _) _ _ _
  refine wpAny_pure ⟨Code.quiet_builtin _ (by decide +kernel), codeAny_builtin F.entry_type_call ?_⟩
  rw [Around.under_plain (weight_type_call_type "set" [Value.ref l] []) rfl]
  have h1 := F.called_set.notType
  have h2 := F.called_set.canCreate
  have hct := F.typeCall_set_1 (.ref l)
  repeat (any_goals (first | assumption | wp_step))
  refine codeAny_mono (code_set_led1 (.ref l) (E := E) (Q₁ := fun obj s₁ => obj = .ref s.heap.objs.size ∧ s₁ = { s with heap := s.heap.push (nset w) }) ⟨rfl, rfl⟩) fun r s₁ hr => ?_
  cases r with
  | error e => exact hr
  | ok fl =>
    cases fl with
    | ret obj =>
      obtain ⟨rfl, rfl⟩ := hr
      have hS : (s.heap.push (nset w)).get? s.heap.objs.size = some (nset w) := Heap.get?_push_size _ rfl
      have hT : Shared.TypeIs { s with heap := s.heap.push (nset w) } (.ref s.heap.objs.size) "set" := ⟨_, hS, rfl⟩
      have hli := F.called_set.init.lookup
      have hbi := F.called_set.init.bind (.ref s.heap.objs.size)
      repeat (any_goals (first | assumption | wp_step))
      refine codeAny_mono (codeAny_call_builtin (R := wants (fun r s₂ => r = .none ∧ ∃ h' tk D es ep t, s₂ = { s with heap := h', toks := tk } ∧ SetM P w h' s.heap.objs.size ks D es ep t ∧ es.size ≤ ks.length ∧ (∀ p ∈ ks, p.2 ∈ D) ∧
          (∀ b o, s.heap.get? b = some o → h'.get? b = some o)) E) F.called_set.init.plain F.entry_set_init (check_set_init_1 hT ?_)) fun r₂ s₂ hr₂ => ?_
      · obtain ⟨ol, hol, hcl, nl, hdl⟩ := hl
        obtain ⟨ocls, odict, odata, oslots⟩ := ol
        simp only at hcl hdl
        subst hcl hdl
        have hol' : (s.heap.push (nset w)).get? l = some { cls := .type "list", dict := odict, data := .seq items nl, slots := oslots } := Heap.get?_push_of_some _ hol
        have hsls := F.sub_list_set
        have hslf := F.sub_list_frozenset
        have hne : (Value.type "list" == Value.type "dict") = false := by decide
        have hl1 : (s.heap.push (nset w)).IsList l items := ⟨_, hol', rfl, nl, rfl⟩
        unfold Builtin.«set.__init__» noKeywords Builtin.Frozenset.updateFrom
        generalize hPI : pyIter = PI
        wp_walk
        subst hPI
        refine wpAny_pyIter_list (s := { s with heap := s.heap.push (nset w) }) hl1 ?_
        refine wpAny_bind (wpAny_runValue ?_)
        have ltl : l < s.heap.objs.size := Heap.lt_size hol
        have hh3 : A.in1.in1.in1.handled = none := by simp [hh]
        have size1 : (s.heap.push (nset w)).objs.size = s.heap.objs.size + 1 := Heap.size_push ..
        have free : ∀ b, s.heap.objs.size ≤ b → s.heap.get? b = none := fun b hb => by
          cases q : s.heap.get? b with
          | none => rfl
          | some o => exact absurd (Heap.lt_size q) (Nat.not_lt.mpr hb)
        refine upd_m (ks := ks) ((Walks.list hh3 _ l (by rw [size1]; exact Nat.ne_of_lt (Nat.lt_succ_of_lt ltl)) items).toS) s.heap.objs.size (by rw [size1]; simp only [List.mem_cons, List.not_mem_nil, or_false, not_or]; exact ⟨Nat.ne_of_lt (Nat.lt_succ_self _), Nat.ne_of_gt ltl⟩) len hfew (fun i v hv => ?_) s.heap hk (free _ (Nat.le_refl _))
          (fun b hb => free b (by rw [List.mem_singleton.mp hb, size1]; exact Nat.le_succ _)) hu (items.size - 0) 0 _ (by omega) (Nat.zero_le _) ⟨⟨_, Heap.get?_push_size _ rfl, rfl, rfl⟩, (hl1.push _)⟩
          (fun b o e => Heap.get?_push_of_some _ (Heap.get?_push_of_some _ e)) ⟨[], #[], 0, _, setM_new (Heap.get?_push_of_some _ hS) fun p hp => isR_keep (hk p hp) fun b o e => Heap.get?_push_of_some _ (Heap.get?_push_of_some _ e), Nat.le_refl _, fun p hp => (by simp at hp)⟩
          fun s' D es ep t hm hS' sz all hkp => ?_
        · have q : items.toList[i]? = some v := by rw [Array.getElem?_toList]; exact hv
          rw [hit, List.getElem?_map] at q
          obtain ⟨p, hp, e⟩ := Option.map_eq_some_iff.mp q
          exact ⟨p, hp, e.symm⟩
        · obtain ⟨h', g2, d', tk', os'⟩ := s'
          have eg : g2 = s.gens := hm.gens
          have ed : d' = s.drawn := hm.drawn
          have eo : os' = s.os := hm.os
          subst eg ed eo
          refine wpAny_pure ?_
          rw [len] at sz all
          rw [List.take_length] at all
          exact wpAny_pure ⟨rfl, h', tk', D, es, ep, t, rfl, hS', sz, all, hkp⟩
      · cases r₂ with
        | error e => exact hr₂
        | ok fl₂ =>
          cases fl₂ with
          | ret r =>
            obtain ⟨rfl, h', tk, D, es, ep, t, rfl, hS', sz, all, hk'⟩ := hr₂
            repeat (any_goals (first | assumption | wp_step))
            exact hQ _ _ _ _ _ _ hS' sz all hk'
          | _ => exact hr₂.elim
    | _ => exact hr.elim
end
end Tk

set_option Elab.async false
set_option linter.all false
set_option maxRecDepth 100000
set_option maxHeartbeats 4000000
/-! Ms6: sorted(set(a list of rows)), rows of two ints, a text and None or a text. -/
namespace Tk
open PySem PySem.Spec PyProof.Rows L2
/-! ### the order of the rows, by a list of ints -/
def encO : Option Key → List Int
  | none => [0]
  | some (.inl i) => [i]
  | some (.inr z) => z.cps.toList.map (fun c : Nat => (c : Int) + 1) ++ [0]
def encK (k : Kk) : List Int := k.flatMap encO
theorem lex_txt : ∀ (a b : List Nat) (r r' : List Int), HT.lexLt (a.map (fun c : Nat => (c : Int) + 1) ++ [0] ++ r) (b.map (fun c : Nat => (c : Int) + 1) ++ [0] ++ r') = if a = b then HT.lexLt r r' else decide (a < b)
  | [], [], r, r' => by simp [HT.lexLt]
  | [], y :: b, r, r' => by
    have h : ¬ (0 : Int) = (y : Int) + 1 := by omega
    have h2 : (0 : Int) < (y : Int) + 1 := by omega
    simp only [List.map_nil, List.nil_append, List.map_cons, List.cons_append, HT.lexLt, if_neg h]
    rw [decide_eq_true h2, if_neg (fun z => nomatch z)]
    exact (decide_eq_true (List.nil_lt_cons y b)).symm
  | x :: a, [], r, r' => by
    have h : ¬ (x : Int) + 1 = 0 := by omega
    have h2 : ¬ (x : Int) + 1 < 0 := by omega
    simp only [List.map_nil, List.nil_append, List.map_cons, List.cons_append, HT.lexLt, if_neg h]
    rw [decide_eq_false h2, if_neg (fun z => nomatch z)]
    exact (decide_eq_false (List.not_lt_nil (x :: a))).symm
  | x :: a, y :: b, r, r' => by
    simp only [List.map_cons, List.cons_append, HT.lexLt]
    by_cases c : x = y
    · subst c
      rw [if_pos rfl]
      have ih := lex_txt a b r r'
      simp only [List.append_assoc] at ih ⊢
      rw [ih]
      by_cases d : a = b
      · rw [if_pos d, if_pos (by rw [d])]
      · rw [if_neg d, if_neg (fun z => d (List.cons.inj z).2)]
        have : (x :: a < x :: b) ↔ a < b := by
          rw [List.cons_lt_cons_iff]
          exact ⟨fun h => h.elim (fun h => absurd h (Nat.lt_irrefl _)) (·.2), fun h => .inr ⟨rfl, h⟩⟩
        exact decide_eq_decide.mpr this.symm
    · have h : ¬ (x : Int) + 1 = (y : Int) + 1 := by omega
      rw [if_neg h, if_neg (fun z => c (List.cons.inj z).1)]
      have : (x :: a < y :: b) ↔ (x : Int) + 1 < (y : Int) + 1 := by
        rw [List.cons_lt_cons_iff]
        exact ⟨fun h => h.elim (fun h => by omega) (fun h => absurd h.1 c), fun h => .inl (by omega)⟩
      exact decide_eq_decide.mpr this.symm
theorem lex_int (i j : Int) (r r' : List Int) : HT.lexLt (encO (some (.inl i)) ++ r) (encO (some (.inl j)) ++ r') = if i = j then HT.lexLt r r' else decide (i < j) := rfl
theorem lex_str (a b : Str) (r r' : List Int) : HT.lexLt (encO (some (.inr a)) ++ r) (encO (some (.inr b)) ++ r') = if a = b then HT.lexLt r r' else decide (a.cps.toList < b.cps.toList) := by
  have h := lex_txt a.cps.toList b.cps.toList r r'
  have e : (a.cps.toList = b.cps.toList) ↔ a = b := by
    constructor
    · intro z
      cases a
      cases b
      exact congrArg PySem.Str.mk (Array.toList_inj.mp z)
    · intro z
      rw [z]
  by_cases c : a = b
  · rw [if_pos c]
    rw [if_pos (e.mpr c)] at h
    exact h
  · rw [if_neg c]
    rw [if_neg (fun z => c (e.mp z))] at h
    exact h
/-- two rows that compare -/
structure Sib (k k' : Kk) : Prop where
  ex : ∃ i j i' j' : Int, ∃ s s' : Str, ∃ o o' : Option Key, k = [some (.inl i), some (.inl j), some (.inr s), o] ∧ k' = [some (.inl i'), some (.inl j'), some (.inr s'), o'] ∧ (s = s' → (o = none ∧ o' = none) ∨ ∃ z z' : Str, o = some (.inr z) ∧ o' = some (.inr z'))
section
variable {P : Program} {w : World} {A : Around} {E : Value → Shared → Prop} {s : Shared}
theorem is_int {i : Int} {v : Value} (h : (noneKind P w).is (some (.inl i)) v = true) : ∃ t, v = Value.int i t := by
  rcases keyIs_shape (k := .inl i) (v := v) h with ⟨j, t, e, r⟩ | ⟨x, t, e, _⟩
  · cases e
    exact ⟨t, r⟩
  · exact nomatch e
theorem is_str {i : Str} {v : Value} (h : (noneKind P w).is (some (.inr i)) v = true) : ∃ t, v = Value.str i t := by
  rcases keyIs_shape (k := .inr i) (v := v) h with ⟨j, t, e, _⟩ | ⟨x, t, e, r⟩
  · exact nomatch e
  · cases e
    exact ⟨t, r⟩
theorem items4 {a b c d : Option Key} {vs : List Value} (h : ItemsAre (noneKind P w) [a, b, c, d] vs) : ∃ v1 v2 v3 v4, vs = [v1, v2, v3, v4] ∧ (noneKind P w).is a v1 = true ∧ (noneKind P w).is b v2 = true ∧ (noneKind P w).is c v3 = true ∧ (noneKind P w).is d v4 = true := by
  cases h with
  | cons h1 h =>
    cases h with
    | cons h2 h =>
      cases h with
      | cons h3 h =>
        cases h with
        | cons h4 h =>
          cases h
          exact ⟨_, _, _, _, rfl, h1, h2, h3, h4⟩
theorem row_lt {k k' : Kk} {a a' : Addr} (hs : Sib k k') (h1 : IsR P w s.heap k a) (h2 : IsR P w s.heap k' a') : wpAny (model P w) A (keyLt' (tuples' true) (.ref a) (.ref a')) (fun r s' => s' = s ∧ r = HT.lexLt (encK k) (encK k')) (fun _ _ => False) s := by
  obtain ⟨i, j, i', j', z, z', o, o', rfl, rfl, hz⟩ := hs.ex
  obtain ⟨u, its, n, hu, hc, hd, hi⟩ := h1
  obtain ⟨u', its', n', hu', hc', hd', hi'⟩ := h2
  obtain ⟨v1, v2, v3, v4, ev, i1, i2, i3, i4⟩ := items4 hi
  obtain ⟨y1, y2, y3, y4, ey, j1, j2, j3, j4⟩ := items4 hi'
  obtain ⟨t1, rfl⟩ := is_int i1
  obtain ⟨t2, rfl⟩ := is_int i2
  obtain ⟨t3, rfl⟩ := is_str i3
  obtain ⟨p1, rfl⟩ := is_int j1
  obtain ⟨p2, rfl⟩ := is_int j2
  obtain ⟨p3, rfl⟩ := is_str j3
  have code : HT.lexLt (encK [some (.inl i), some (.inl j), some (.inr z), o]) (encK [some (.inl i'), some (.inl j'), some (.inr z'), o']) =
      if i = i' then if j = j' then if z = z' then HT.lexLt (encO o ++ []) (encO o' ++ []) else decide (z.cps.toList < z'.cps.toList) else decide (j < j') else decide (i < i') := by
    show HT.lexLt (encO (some (.inl i)) ++ (encO (some (.inl j)) ++ (encO (some (.inr z)) ++ (encO o ++ [])))) (encO (some (.inl i')) ++ (encO (some (.inl j')) ++ (encO (some (.inr z')) ++ (encO o' ++ [])))) = _
    rw [lex_int, lex_int, lex_str]
  rw [code]
  refine PySem.W.kat_lt hu hd hu' hd' ?_
  have es : its.size = 4 := by rw [← Array.length_toList, ev]; rfl
  have es' : its'.size = 4 := by rw [← Array.length_toList, ey]; rfl
  rw [es, es', ev, ey]
  show PySem.W.KatLex P w A true (decide (4 < 4)) _ [(.int i t1, .int i' p1), (.int j t2, .int j' p2), (.str z t3, .str z' p3), (v4, y4)] 0 s
  refine PySem.W.kat_cons (SeqAt.EqAt.int_int i t1 i' p1 P w _ _ ?_)
  refine PySem.W.kat_go (fun e1 => ?_) (fun e1 => ?_)
  · have e1 : i = i' := by simpa using e1
    rw [if_pos e1]
    refine PySem.W.kat_yes (PySem.W.kat_cons (SeqAt.EqAt.int_int j t2 j' p2 P w _ _ ?_))
    refine PySem.W.kat_go (fun e2 => ?_) (fun e2 => ?_)
    · have e2 : j = j' := by simpa using e2
      rw [if_pos e2]
      refine PySem.W.kat_yes (PySem.W.kat_cons (SeqAt.EqAt.str_str z t3 z' p3 P w _ _ ?_))
      refine PySem.W.kat_go (fun e3 => ?_) (fun e3 => ?_)
      · have e3 : z = z' := by simpa using e3
        rw [if_pos e3]
        rcases hz e3 with ⟨rfl, rfl⟩ | ⟨x, x', rfl, rfl⟩
        · have n1 := nk_none i4
          have n2 := nk_none j4
          subst n1 n2
          refine PySem.W.kat_yes (PySem.W.kat_cons (SeqAt.EqAt.same .none P w _ _ ?_))
          exact PySem.W.kat_yes (PySem.W.kat_nil ⟨rfl, rfl⟩)
        · obtain ⟨t4, rfl⟩ := is_str i4
          obtain ⟨p4, rfl⟩ := is_str j4
          rw [lex_str]
          refine PySem.W.kat_yes (PySem.W.kat_cons (SeqAt.EqAt.str_str x t4 x' p4 P w _ _ ?_))
          refine PySem.W.kat_go (fun e4 => ?_) (fun e4 => ?_)
          · have e4 : x = x' := by simpa using e4
            rw [if_pos e4]
            exact PySem.W.kat_yes (PySem.W.kat_nil ⟨rfl, rfl⟩)
          · have e4 : ¬ x = x' := by simpa using e4
            rw [if_neg e4]
            exact PySem.W.kat_no (PySem.W.kat_one _ _ (PyProof.Rows.lt_str ⟨rfl, rfl⟩))
      · have e3 : ¬ z = z' := by simpa using e3
        rw [if_neg e3]
        exact PySem.W.kat_no (PySem.W.kat_one _ _ (PyProof.Rows.lt_str ⟨rfl, rfl⟩))
    · have e2 : ¬ j = j' := by simpa using e2
      rw [if_neg e2]
      exact PySem.W.kat_no (PySem.W.kat_one _ _ (PyProof.Rows.lt_int ⟨rfl, rfl⟩))
  · have e1 : ¬ i = i' := by simpa using e1
    rw [if_neg e1]
    exact PySem.W.kat_no (oneLt_int ⟨rfl, rfl⟩)
end
end Tk

set_option Elab.async false
set_option linter.all false
set_option maxRecDepth 100000
set_option maxHeartbeats 4000000
/-! Ms7: sorted(set(rows)) as a rule. -/
namespace Tk
open PySem PySem.Spec PyProof.Rows L2
open SrtO (Swo Srtd Stb Cmp lt2 SortableO list_sort_ord)
open Classical in
/-- the key of a value among the rows -/
noncomputable def keyAt (ks : Rows) (v : Value) : Kk := if h : ∃ p ∈ ks, v = Value.ref p.1 then (Classical.choose h).2 else []
section
variable {P : Program} {w : World} {A : Around} {E : Value → Shared → Prop} {s : Shared} {ks : Rows}
theorem keyAt_is {h : Heap} (tup : ∀ p ∈ ks, IsR P w h p.2 p.1) {v : Value} (hv : ∃ p ∈ ks, v = Value.ref p.1) : ∃ a, v = Value.ref a ∧ IsR P w h (keyAt ks v) a ∧ (a, keyAt ks v) ∈ ks := by
  have e : keyAt ks v = (Classical.choose hv).2 := by
    unfold keyAt
    rw [dif_pos hv]
  obtain ⟨c1, c2⟩ := Classical.choose_spec hv
  exact ⟨_, c2, by rw [e]; exact tup _ c1, by rw [e]; exact c1⟩
theorem isR_first {h : Heap} {k k' : Kk} {a : Addr} (hs : Sib k k') (x : IsR P w h k a) : ∃ o xs n j t, h.get? a = some o ∧ o.cls = .type "tuple" ∧ o.data = .seq xs n ∧ xs[0]? = some (Value.int j t) := by
  obtain ⟨i, j, i', j', z, z', o, o', rfl, rfl, hz⟩ := hs.ex
  obtain ⟨u, its, n, hu, hc, hd, hi⟩ := x
  obtain ⟨v1, v2, v3, v4, ev, i1, _⟩ := items4 hi
  obtain ⟨t1, rfl⟩ := is_int i1
  exact ⟨u, its, n, i, t1, hu, hc, hd, by rw [← Array.getElem?_toList, ev]; rfl⟩
theorem rows_firsts {h : Heap} (tup : ∀ p ∈ ks, IsR P w h p.2 p.1) (sib : ∀ p ∈ ks, ∀ q ∈ ks, Sib p.2 q.2) : ∀ vs : List Value, (∀ v ∈ vs, ∃ p ∈ ks, v = Value.ref p.1) → ∃ fs : List Value, PySem.W.KatTups h vs fs ∧ fs.length = vs.length ∧ ∀ f ∈ fs, ∃ x t, f = Value.int x t
  | [], _ => ⟨[], PySem.W.KatTups.nil, rfl, fun f hf => nomatch hf⟩
  | v :: vs, hv => by
    obtain ⟨fs, a, b, c⟩ := rows_firsts tup sib vs fun u hu => hv u (.tail _ hu)
    obtain ⟨p, hp, rfl⟩ := hv v (.head _)
    obtain ⟨o, xs, n, j, t, ho, hc, hd, hx⟩ := isR_first (sib p hp p hp) (tup p hp)
    refine ⟨.int j t :: fs, PySem.W.KatTups.cons ho hc hd hx a, by rw [List.length_cons, List.length_cons, b], fun f hf => ?_⟩
    rcases List.mem_cons.mp hf with e | hf
    · exact ⟨j, t, e⟩
    · exact c f hf
theorem rows_sortable {a : Addr} {vs : List Value} (h0 : 0 < vs.length) (sib : ∀ p ∈ ks, ∀ q ∈ ks, Sib p.2 q.2) (tup : ∀ p ∈ ks, IsR P w s.heap p.2 p.1) (hv : ∀ v ∈ vs, ∃ p ∈ ks, v = Value.ref p.1) (ha : ∀ o, s.heap.get? a = some o → o.cls ≠ .type "tuple") :
    SortableO P w A s a vs fun v u => HT.lexLt (encK (keyAt ks v)) (encK (keyAt ks u)) := by
  intro h' keep
  have tup' : ∀ p ∈ ks, IsR P w h' p.2 p.1 := fun p hp => by
    obtain ⟨o, its, n, ho, hc, r⟩ := tup p hp
    exact ⟨o, its, n, keep _ _ (fun z => by rw [z] at ho; exact ha o ho hc) ho, hc, r⟩
  obtain ⟨fs, f1, f2, f3⟩ := rows_firsts tup' sib vs hv
  refine ⟨tuples' true, fun Q E hq => ?_, fun p q hp hq => ?_⟩
  · refine PySem.W.kat_kind (T := .type "int") f1 (by omega) (fun f hm => ?_) (by rfl) ?_
    · obtain ⟨x, t, rfl⟩ := f3 f hm
      exact PySem.W.Looks.now
    · rw [show (Value.type "int" != Value.type "tuple") = true from by decide]
      exact hq
  · obtain ⟨b, e1, r1, m1⟩ := keyAt_is tup' (hv p.1 hp)
    obtain ⟨c, e2, r2, m2⟩ := keyAt_is tup' (hv q.1 hq)
    have g := row_lt (s := { s with heap := h' }) (A := A) (P := P) (w := w) (sib _ m1 _ m2) r1 r2
    show wpAny (model P w) A (keyLt' (tuples' true) p.1 q.1) _ _ _
    rw [e1, e2]
    exact g
/-- sorted(set) -/
theorem sorted_m {a : Addr} {D : List Kk} {es : Array (Int × Value)} {ep : Nat} {t : SetTable} {Q : Value → Shared → Prop} (R : SetM P w s.heap a ks D es ep t) (hh : A.handled = none) (hz : es.size ≤ 300) (sib : ∀ p ∈ ks, ∀ q ∈ ks, Sib p.2 q.2)
    (hQ : ∀ s' p (out : List Value) (c : Nat), (∀ b o, s.heap.get? b = some o → s'.heap.get? b = some o) → s'.gens = s.gens → s'.os = s.os → s.heap.objs.size ≤ p →
      s'.heap.get? p = some (seqObj "list" out.toArray c) → out.length = es.size → (∀ v, v ∈ out ↔ ∃ e ∈ es.toList, e.2 = v) → Q (.ref p) s') :
    wpAny (model P w) A (call (.builtin "sorted") [.ref a]) Q E s := by
  obtain ⟨o, ho, hex, hd⟩ := R.ob
  refine Calls.call_function_entry kind_sorted plain_sorted entry_sorted (args_sorted1 _) ?_
  unfold Builtin.«sorted»
  refine wpAny_bind (m := checkCount "sorted" 1 1 _) (wpAny_pure ?_)
  refine wpAny_bind (collect_set (A := A.in1) hh ⟨o, ho, hex.1, hd⟩ R.fits (by unfold scanBound; omega) R.ris R.led fun s1 vs k1 sz1 g1 o1 pm => ?_)
  have len : vs.length = es.size := by rw [pm.length_eq, List.length_map, Array.length_toList]
  refine wpAny_bind (wpAny_newList ?_ (by rw [sizeLine_eq]; omega))
  have hoL : (s1.heap.push (seqObj "list" vs.toArray 0)).get? s1.heap.objs.size = some (seqObj "list" vs.toArray 0) := Heap.get?_push_size _ rfl
  have src : ∀ v ∈ vs, ∃ p ∈ ks, v = Value.ref p.1 := fun v hv => by
    obtain ⟨e, he, rfl⟩ := List.mem_map.mp (pm.mem_iff.mp hv)
    exact R.sound e he
  have tup1 : ∀ p ∈ ks, IsR P w (s1.heap.push (seqObj "list" vs.toArray 0)) p.2 p.1 := fun p hp => isR_keep (R.tup p hp) fun b u e => Heap.get?_push_of_some _ (k1 b u e)
  refine wpAny_bind (wpAny_holding (wpAny_call_entry slot_list_sort ⟨_, hoL, rfl⟩ entry_list_sort (list_sort_ord (s := { s1 with heap := s1.heap.push (seqObj "list" vs.toArray 0) }) (NtL.swo_lexL fun v => encK (keyAt ks v)) hoL (by rw [sizeLine_eq]; omega) (fun h2 => rows_sortable (s := { s1 with heap := s1.heap.push (seqObj "list" vs.toArray 0) }) (by omega) sib tup1 src fun u hu => ?_) fun out _ hb => ⟨_, rfl, ?_⟩) (args_list_sort _)))
  · rw [hoL] at hu
    cases hu
    exact fun c => absurd (Value.type.inj c) (by decide)
  · obtain ⟨c, hc⟩ := sortedHeap_at (vs := vs) (out := out.toArray) hoL
    refine wpAny_pure ⟨_, rfl, hQ _ s1.heap.objs.size out c (fun b u e => ?_) g1 o1 sz1 hc (by rw [hb.perm.length_eq, len]) fun v => ?_⟩
    · have q := k1 b u e
      have lt := Heap.lt_size q
      show (sortedHeap (s1.heap.push (seqObj "list" vs.toArray 0)) s1.heap.objs.size vs out.toArray).get? b = some u
      rw [sortedHeap_old (Nat.ne_of_lt lt) (by rw [size_push']; exact Nat.lt_succ_of_lt lt)]
      exact Heap.get?_push_of_some _ q
    · rw [hb.perm.mem_iff, pm.mem_iff, List.mem_map]
end
/-- an item of a row as a value of the layer -/
def okV : Option Key → V
  | none => .non
  | some k => kV k
theorem row_items {P : Program} {w : World} : ∀ {k : Kk} {us : List Value}, Vals (k.map okV) us → ItemsAre (noneKind P w) k us
  | [], _, .nil => .nil
  | o :: k, _, .cons r t => by
    refine .cons ?_ (row_items t)
    cases o with
    | none =>
      have r : RelV .non _ := r
      cases r
      rfl
    | some q =>
      cases q with
      | inl i =>
        obtain ⟨tk, rfl⟩ := r
        exact (show (mixKind P w).is (.inl i) (.int i tk) = true from intKind_is P w i tk)
      | inr z =>
        obtain ⟨tk, rfl⟩ := r
        exact (show keyIs (.inr z) (.str z tk) = true from by simp [keyIs, Value.isStrOf])
theorem refs_of : ∀ {ks : Rows} {us : List Value}, Vals (ks.map fun p => V.ref p.1) us → us = ks.map fun p => Value.ref p.1
  | [], _, .nil => rfl
  | p :: ks, _, .cons r t => by
    cases r
    rw [refs_of t]
    rfl
theorem vals_refs : ∀ (ks : Rows), Vals (ks.map fun p => V.ref p.1) (ks.map fun p => Value.ref p.1)
  | [] => .nil
  | p :: ks => .cons rfl (vals_refs ks)
section
variable {X : Cx}
theorem inv_row {pins : List (Addr × Obj)} {σ : L2.St} {H : Hp} {s : Shared} {b : Addr} {k : Kk} (I : Inv X pins σ H s) (h : SqT X.K H b (k.map okV)) : IsR X.prog X.w s.heap k b := by
  obtain ⟨its, r, ⟨o, ho, hc, n, hd⟩, _⟩ := I.tuple h
  exact ⟨o, its.toArray, n, ho, hc, hd, by simpa using row_items r⟩
def tSortedSet (K : PySem.W.Frag) (te : TE) : TE := fun σ H Q => te σ H fun x H1 => ∃ (l : Addr) (ks : Rows), x = V.ref l ∧ SqL K H1 l (ks.map fun p => V.ref p.1) ∧ (∀ p ∈ ks, SqT K H1 p.1 (p.2.map okV)) ∧ ks.length < 300 ∧ (∀ p ∈ ks, ∀ q ∈ ks, Sib p.2 q.2) ∧
  ∀ (L : Rows) (d : Addr), H1 d = none → (∀ q ∈ L, q ∈ ks) → (∀ p ∈ ks, ∃ q ∈ L, q.2 = p.2) → L.length ≤ ks.length → Q (.ref d) (upd H1 d (.lst (L.map fun p => V.ref p.1)))
theorem pe_sortedSet {a : Expr} {te : TE} {p p2 q pos : Pos} (hc : X.calm = true) (hu : X.A.units + 65 < cLine) (hg : Gl X "sorted") (hm : X.mg "sorted" = none) (hg2 : Gl X "set") (hm2 : X.mg "set" = none) (ha : PE X a te)
    (na : starEach [a] X.env = (false, eval a X.env) :: starEach [] X.env := by rfl) : PE X (.Call (.Name "sorted" p) [.Call (.Name "set" p2) [a] [] q] [] pos) (tSortedSet X.K te) := by
  refine ⟨fun pins s σ H Q I h => ?_⟩
  refine Call_ (ld_blt I hg hm PyProof.Rows.boot_sorted ?_)
  refine PyProof.Rows.callWith_builtin1 (PyProof.Rows.args_cons ?_ rfl) rfl rfl
  refine Call_ (ld_blt I hg2 hm2 PyProof.Rows.boot_set ?_)
  refine PyProof.Rows.callWith_type1 (PyProof.Rows.args_cons (thn (ha.run pins s σ H _ I h) fun v s1 ⟨x, H1, I1, r1, q1⟩ => PyProof.Rows.args_nil ?_) na) na rfl
  obtain ⟨l, ks, rfl, hq, hk, few, sib, q1⟩ := q1
  cases r1
  obtain ⟨its, r, pl, hz⟩ := I1.list hq
  refine call_set_m (P := X.prog) (w := X.w) (ks := ks) (I1.ok.hd hc) pl.isList (by simpa using refs_of r) (fun p hp => inv_row I1 (hk p hp)) few (by omega) fun h' tk D es ep t R sz all keep => ?_
  refine PyProof.Rows.args_nil ?_
  have I2 : Inv X pins σ H1 { s1 with heap := h', toks := tk } := I1.kept keep
  refine sorted_m R (I2.ok.hd hc) (by omega) sib fun s' d out c k2 g o hd hg hl hm => ?_
  -- the members as rows
  have rows : ∀ vs : List Value, (∀ v ∈ vs, ∃ p ∈ ks, v = Value.ref p.1) → ∃ L : Rows, vs = L.map (fun p => Value.ref p.1) ∧ ∀ q ∈ L, q ∈ ks := fun vs => by
    induction vs with
    | nil => exact fun _ => ⟨[], rfl, fun q hq => nomatch hq⟩
    | cons v vs ih =>
      intro hv
      obtain ⟨L, e, m⟩ := ih fun u hu => hv u (.tail _ hu)
      obtain ⟨p, hp, rfl⟩ := hv v (.head _)
      refine ⟨p :: L, by rw [e]; rfl, fun q hq => ?_⟩
      rcases List.mem_cons.mp hq with z | z
      · rw [z]
        exact hp
      · exact m q z
  obtain ⟨L, eL, mL⟩ := rows out fun v hv => by
    obtain ⟨e, he, rfl⟩ := (hm v).mp hv
    exact R.sound e he
  have lenL : L.length = es.size := by rw [← hl, eL, List.length_map]
  have fullL : ∀ p ∈ ks, ∃ q ∈ L, q.2 = p.2 := fun p hp => by
    obtain ⟨e, he, p', hp', ev, ek⟩ := R.full p.2 (all p hp)
    have hv : Value.ref p'.1 ∈ out := (hm _).mpr ⟨e, he, ev⟩
    rw [eL] at hv
    obtain ⟨q, hq, eq⟩ := List.mem_map.mp hv
    have ea : q.1 = p'.1 := by injection eq
    refine ⟨q, hq, ?_⟩
    have r1 := R.tup q (mL q hq)
    rw [ea] at r1
    rw [← ek]
    exact r1.inj (R.tup p' hp')
  have hn : H1 d = none := I2.hok.fresh hd
  have hlen : (L.map fun q => V.ref q.1).length ≤ sizeLine := by rw [List.length_map, sizeLine_eq]; omega
  have J : Inv X pins σ (upd H1 d (.lst (L.map fun q => V.ref q.1))) { ({ s1 with heap := h', toks := tk } : Shared) with heap := s'.heap, gens := s'.gens, drawn := s'.drawn, toks := s'.toks } :=
    I2.call (ch := []) (Un.laid k2 hd hn) (I2.hok.laid k2 hd ⟨hlen, out, c, by rw [eL]; exact vals_refs L, hg⟩) (by rw [g]; exact I2.bare) (fun _ z => nomatch z)
  have e : s' = { ({ s1 with heap := h', toks := tk } : Shared) with heap := s'.heap, gens := s'.gens, drawn := s'.drawn, toks := s'.toks } := by
    cases s'
    cases o
    rfl
  rw [e]
  exact ⟨.ref d, _, J, rfl, q1 L d hn mL fullL (by rw [lenL]; exact sz)⟩
end
end Tk

set_option Elab.async false
set_option linter.all false
set_option maxRecDepth 100000
set_option maxHeartbeats 2000000
/-! Me: enumerate(a tuple). -/
namespace Tk
open PySem PySem.Spec PyProof.Rows L2
theorem enum_new1 {v : Value} {o : Obj} {B : Heap → Prop} (b : Begins v o B) :
    Meets (Builtin.«enumerate.__new__» ⟨[.type "enumerate", v], []⟩) (fun _ R s => B s.heap ∧ R (.ok (.ret (.ref (s.heap.push o).objs.size)))
      { s with heap := (s.heap.push o).push { cls := .type "enumerate", data := .fields #[.none, .bool false, .ref s.heap.objs.size, rawInt 0, .none, .none] } }) :=
  .of_wp fun prog w A R s h => by
    obtain ⟨hp, g, d, tk, os⟩ := s
    obtain ⟨h1, h⟩ := h
    have hsub := sub_enumerate
    have it1 : ∀ {A' : Around} {E : Value → Shared → Prop} {Q : Value → Shared → Prop}, Q (.ref hp.objs.size) ⟨hp.push o, g, d, tk, os⟩ → wpAny (model prog w) A' (pyIter v) Q E ⟨hp, g, d, tk, os⟩ := fun q => b.iter prog w _ _ ⟨hp, g, d, tk, os⟩ _ h1 q
    wp_walk using it1
    refine wpAny_stack_any fun st => wpAny_pure ?_
    split
    · rename_i c _ _ _ _ _
      cases (c == Value.type "enumerate") <;> (wp_walk using it1; exact ⟨_, rfl, h⟩)
    · wp_walk using it1
      exact ⟨_, rfl, h⟩
section
variable {prog : Program} {w : World} {A : Around} {E : Value → Shared → Prop} {s : Shared}
theorem call_enum1 {v : Value} {o : Obj} {B : Heap → Prop} {Q : Value → Shared → Prop} (b : Begins v o B) (h1 : B s.heap)
    (h : ∀ h', IsEnum h' (s.heap.objs.size + 1) s.heap.objs.size 0 .none → h'.get? s.heap.objs.size = some o → (∀ b o, s.heap.get? b = some o → h'.get? b = some o) → Q (.ref (s.heap.objs.size + 1)) { s with heap := h' }) :
    wpAny (model prog w) A (call (.type "enumerate") [v]) Q E s := by
  refine callType_new F.called_enumerate (by decide) (F.typeCall_enumerate_1 _) (F.newCall_enumerate_1 _) (fun obj => F.args_object_init_2 obj _) F.entry_enumerate_new (enum_new1 b) ⟨h1, ?_⟩
  have size1 : (s.heap.push o).objs.size = s.heap.objs.size + 1 := Heap.size_push ..
  show _ ∧ _
  rw [size1]
  have he : IsEnum ((s.heap.push o).push { cls := .type "enumerate", data := .fields #[.none, .bool false, .ref s.heap.objs.size, rawInt 0, .none, .none] }) (s.heap.objs.size + 1) s.heap.objs.size 0 .none := by
    have q := Heap.get?_push_size (s.heap.push o) (o := { cls := .type "enumerate", data := .fields #[.none, .bool false, .ref s.heap.objs.size, rawInt 0, .none, .none] }) rfl
    rw [size1] at q
    exact q
  exact ⟨⟨_, he, rfl⟩, h _ he (Heap.get?_push_of_some _ (Heap.get?_push_size _ b.free)) fun c u x => Heap.get?_push_of_some _ (Heap.get?_push_of_some _ x)⟩
end
/-- the tuple at a, each item in a new pair -/
def IteT (K : PySem.W.Frag) (a : Addr) : It :=
  ⟨fun i H => ∃ (xs : List V) (x : V), SqT K H a xs ∧ xs[i]? = some x, fun i H v H' => ∃ T x, v = .ref T ∧ H T = none ∧ H' = upd H T (.tup [.int (i : Nat), x]) ∧ ∀ xs, SqT K H a xs → xs[i]? = some x, fun i H => ∃ xs : List V, SqT K H a xs ∧ xs.length = i⟩
/-- the iterator at e over the one at it -/
def enSt (e it a : Addr) (i : Nat) (h : Heap) : Prop := (∃ old, IsEnum h e it ((i : Nat) : Int) old) ∧ h.IsTupleIter it a i ∧ e ≠ it ∧ a ≠ it ∧ a ≠ e
theorem turn_enumT {P : Program} {w : World} {K : PySem.W.Frag} {elts : List Expr} {kk : Nat} {tpos : Pos} (a e it : Addr) : Turn P w K (.Tuple elts kk tpos) (IteT K a) [e, it] e (enSt e it a) where
  mem := .head _
  obj := fun i h st b hb => by
    obtain ⟨⟨old, he⟩, hi, _⟩ := st
    rcases List.mem_cons.mp hb with z | z
    · exact ⟨_, z ▸ he, fun v q => (nomatch (show Data.fields _ = Data.cell v from q))⟩
    · obtain ⟨o, ho, hc, hd⟩ := hi
      exact ⟨o, (List.mem_singleton.mp z) ▸ ho, fun v q => by rw [hd] at q; cases q⟩
  keep := fun i h h' st k => ⟨st.1.elim fun old he => ⟨old, k e (.head _) _ he⟩, st.2.1.at fun o q => k it (.tail _ (.head _)) o q, st.2.2⟩
  item := by
    intro X hP hw hK hc i pins s σ H E I hf st hg
    subst hP hw hK
    obtain ⟨⟨old, he⟩, hit, ne1, ne2, ne3⟩ := st
    obtain ⟨xs, x, hq, hx⟩ := hg
    obtain ⟨its, rv, p, hz⟩ := I.tuple hq
    obtain ⟨u, hu, ru⟩ := rv.get hx
    have el : e < s.heap.objs.size := Heap.lt_size he
    have il : it < s.heap.objs.size := by
      obtain ⟨_, q, _⟩ := hit
      exact Heap.lt_size q
    have pt : s.heap.IsTuple a its.toArray := p
    have hlt : i < its.toArray.size := by
      have := (List.getElem?_eq_some_iff.mp hu).1
      simpa using this
    refine wpAny_pyNext_enum_itemC (Draws.tuple (A := X.A.in1) (prog := X.prog) (w := X.w) (by have := I.ok.hd hc; simpa using this) it a ne2 its.toArray) he ⟨hit, pt⟩ hlt ne1 (by simp only [List.mem_cons, List.not_mem_nil, or_false, not_or]; exact ⟨ne1, Ne.symm ne3⟩) fun y h' tk hP ho hst hT hsz hk => ?_
    have ey : y = u := by
      have q : its.toArray[i]? = some u := by simpa using hu
      have hP : its.toArray[i]? = some y := hP
      rw [q] at hP
      exact (Option.some.inj hP).symm
    subst ey
    refine ⟨_, rfl, wpAny_letOwnedTupleGo_enum (s := { s with heap := h', toks := tk + 1 }) ho fun h2 he2 sb => ?_⟩
    have hT2 := (sb.2 s.heap.objs.size (Nat.ne_of_gt el)).trans hT
    have new : ObjOk X.prog X.w (upd H s.heap.objs.size (.tup [.int (i : Nat), x])) h2 s.heap.objs.size (.tup [.int (i : Nat), x]) :=
      ⟨by show 2 ≤ sizeLine; decide, [.int i tk, y], .cons ⟨_, rfl⟩ (.cons ru .nil), ⟨_, hT2, rfl, _, rfl⟩⟩
    have J : Inv X pins σ (upd H s.heap.objs.size (.tup [.int (i : Nat), x])) { s with heap := h2, toks := tk + 1 } :=
      I.turnedNew (t' := tk + 1) (ch := [e, it]) (fun b ob hb q => (sb.2 b fun z => hb (z ▸ .head _)).trans (hk b ob (fun z => hb (z ▸ .head _)) (fun z => hb (z ▸ .tail _ (.head _))) q)) hf (Nat.le_refl _) new
    refine ⟨.ref s.heap.objs.size, _, J, rfl, ⟨_, x, rfl, I.hok.fresh (Nat.le_refl _), rfl, fun ys hy => by rw [I.tuple_inj hy hq]; exact hx⟩, ⟨⟨y, ?_⟩, hst.1.at fun o q => (sb.2 it (Ne.symm ne1)).trans q, ne1, ne2, ne3⟩, fun b hb => ?_⟩
    · rw [show ((i + 1 : Nat) : Int) = (i : Int) + 1 by omega]
      exact he2
    · have lt : b < s.heap.objs.size := by
        rcases List.mem_cons.mp hb with z | z
        · exact z ▸ el
        · exact (List.mem_singleton.mp z) ▸ il
      rw [upd_ne (Nat.ne_of_lt lt)]
      exact (hf b hb).1
  done := by
    intro X hP hw hK hc i pins s σ H E I hf st hg
    subst hP hw hK
    obtain ⟨⟨old, he⟩, hit, ne1, ne2, ne3⟩ := st
    obtain ⟨xs, hq, hx⟩ := hg
    obtain ⟨its, rv, p, hz⟩ := I.tuple hq
    obtain ⟨f0, f1, f2, f3, f4, f5⟩ := hf it (.tail _ (.head _))
    have pt : s.heap.IsTuple a its.toArray := p
    have len : its.toArray.size = i := by rw [List.size_toArray, ← rv.length, hx]
    have D := Draws.tuple (A := X.A.in1) (prog := X.prog) (w := X.w) (by have := I.ok.hd hc; simpa using this) it a ne2 its.toArray
    exact wpAny_pyNext_enum_endD D he ⟨by rw [len]; exact hit, pt⟩ fun h' eb => ⟨rfl, I.turned (t' := s.toks) (fun b o hb q => eb b o hb q) f0 f1 f3 f4 f5⟩
  self := fun A i s Q E st h => st.1.elim fun _ he => wpAny_pyIter_enum he h
def iEnumT (K : PySem.W.Frag) (ta : TA) : TI := fun σ H R => ta σ H fun vs H1 => ∃ a xs, vs = [.ref a] ∧ SqT K H1 a xs ∧ R (IteT K a) H1
theorem pi_enumT {X : Cx} {e : Expr} {ta : TA} {p pos tpos : Pos} {elts : List Expr} {kk : Nat} (hg : Gl X "enumerate") (hm : X.mg "enumerate" = none) (ha : PA X [e] ta) (hs : starEach [e] X.env = [(false, eval e X.env)] := by rfl) :
    PI X (.Tuple elts kk tpos) (.Call (.Name "enumerate" p) [e] [] pos) (iEnumT X.K ta) := by
  refine ⟨fun pins s σ H R I h => Call_ (ld_blt I hg hm boot_enumerate (PyProof.Rows.callWith_type1 (thn (ha.run pos pins s σ H _ I h) fun us s1 ⟨vs, H1, I1, r1, a, xs, ex, hq, q⟩ => ?_) hs rfl))⟩
  subst ex
  rw [Vals.ref1 r1]
  obtain ⟨its, rv, p', hz⟩ := I1.tuple hq
  have pt : s1.heap.IsTuple a its.toArray := p'
  have al : a < s1.heap.objs.size := by
    obtain ⟨o, ho, _⟩ := id pt
    exact Heap.lt_size ho
  refine call_enum1 (begins_tuple a its.toArray) pt fun h' he hit hk => wpAny_pyIter_enum he ?_
  have J : Inv X pins σ H1 { s1 with heap := h' } := I1.kept (t' := s1.toks) hk
  refine ⟨s1.heap.objs.size + 1, [s1.heap.objs.size + 1, s1.heap.objs.size], _, _, H1, rfl, J, turn_enumT a (s1.heap.objs.size + 1) s1.heap.objs.size, ⟨⟨.none, he⟩, ⟨_, hit, rfl, rfl⟩, Nat.succ_ne_self _, Nat.ne_of_lt al, Nat.ne_of_lt (Nat.lt_succ_of_lt al)⟩, fun b hb => ?_, q⟩
  have le : s1.heap.objs.size ≤ b := by
    rcases List.mem_cons.mp hb with z | z
    · rw [z]
      exact Nat.le_succ _
    · exact Nat.le_of_eq (List.mem_singleton.mp z).symm
  exact I1.fpOk le (I1.hok.fresh le)
end Tk

set_option Elab.async false
set_option linter.all false
set_option maxRecDepth 100000
set_option maxHeartbeats 2000000
/-! Mv: list(reversed(a list)). -/
namespace Tk
open PySem PySem.Spec PyProof.Rows L2
section
variable {prog : Program} {w : World} {A : Around} {E : Value → Shared → Prop} {s : Shared}
theorem list_rev {it l : Addr} {items : Array Value} {Q : Value → Shared → Prop} (hh : A.handled = none) (hit : s.heap.IsRevIter it l ((items.size : Int) - 1)) (hl : s.heap.IsList l items) (hne : l ≠ it) (hn : items.size ≤ sizeLine)
    (hQ : ∀ (h' : Heap) (tk : Nat) (acc : Array Value) (c : Nat), (∀ b o, b ≠ it → s.heap.get? b = some o → h'.get? b = some o) → ItemsOf (fun i v => items[items.size - 1 - i]? = some v) acc items.size →
      h'.get? s.heap.objs.size = some { cls := .type "list", dict := none, data := .seq acc c, slots := #[] } → Q (.ref s.heap.objs.size) { s with heap := h', toks := tk }) :
    wpAny (model prog w) A (call (.type "list") [.ref it]) Q E s := by
  obtain ⟨oi, hoi, _⟩ := id hit
  obtain ⟨ol, hol, _⟩ := id hl
  have n1 : s.heap.objs.size ≠ it := Nat.ne_of_gt (Heap.lt_size hoi)
  have n2 : s.heap.objs.size ≠ l := Nat.ne_of_gt (Heap.lt_size hol)
  refine callType_codes (Q₁ := fun obj s₁ => obj = .ref s.heap.objs.size ∧ s₁ = { s with heap := s.heap.push { cls := .type "list", data := .seq #[] } }) PySem.F.called_list (PySem.F.typeCall_list_1 _) PySem.F.entry_list_init
    (code_list_new _ ⟨rfl, rfl⟩) fun obj s₁ h₁ => ?_
  obtain ⟨rfl, rfl⟩ := h₁
  have hS : (s.heap.push { cls := .type "list", data := .seq #[] }).get? s.heap.objs.size = some { cls := .type "list", data := .seq #[] } := Heap.get?_push_size _ rfl
  refine ⟨⟨_, hS, rfl⟩, PySem.F.args_list_init_2 _ _, ?_⟩
  have W := (Walks.listRev (prog := prog) (w := w) (A := A.in1.in1) (by simpa using hh) it l hne items).toS
  have hf : s.heap.objs.size ∉ [it, l] := by
    simp only [List.mem_cons, List.not_mem_nil, or_false, not_or]
    exact ⟨n1, n2⟩
  show wpAny _ _ (do let old ← Builtin.List.listItems (.ref s.heap.objs.size); Builtin.List.listUpdate (.ref s.heap.objs.size) (fun _ => #[]); letGo old.toList.reverse; Builtin.List.listExtendWith (.ref s.heap.objs.size) (.ref it) .none) _ _ _
  refine wpAny_bind ?_
  unfold Builtin.List.listItems
  refine wpAny_bind (wpAny_seqItems hS rfl (wpAny_pure ?_))
  show wpAny _ _ (updateSeq s.heap.objs.size (fun _ => #[]) >>= fun _ => letGo (#[] : Array Value).toList.reverse >>= fun _ => Builtin.List.listExtendWith (.ref s.heap.objs.size) (.ref it) .none) _ _ _
  refine wpAny_bind (wpAny_updateSeq hS rfl ?_)
  have hS2 := Heap.get?_update_self (Obj.mapSeq (fun _ => (#[] : Array Value))) hS rfl
  have keep : ∀ b o, s.heap.get? b = some o → ((s.heap.push { cls := .type "list", data := .seq #[] }).update s.heap.objs.size (Obj.mapSeq fun _ => #[])).get? b = some o := fun b o e =>
    (Heap.get?_update_other _ _ (Nat.ne_of_gt (Heap.lt_size e))).trans (Heap.get?_push_of_some _ e)
  generalize (s.heap.push { cls := .type "list", data := .seq #[] }).update s.heap.objs.size (Obj.mapSeq fun _ => #[]) = h2 at hS2 keep ⊢
  refine wpAny_bind (wpAny_letGo ?_)
  have hit2 : h2.IsRevIter it l ((items.size : Int) - 1) := hit.at fun o e => keep _ _ e
  have hl2 : h2.IsList l items := by
    obtain ⟨o, ho, c, n, d⟩ := hl
    exact ⟨o, keep _ _ ho, c, n, d⟩
  have ty : ({ s with heap := h2 } : Shared).TypeIs (.ref it) "list_reverseiterator" := Heap.IsRevIter.typeIs (s := { s with heap := h2 }) hit2
  have other : Builtin.List.listSameRef (.ref s.heap.objs.size) (.ref it) = false := by simp [Builtin.List.listSameRef, n1]
  unfold Builtin.List.listExtendWith
  refine wpAny_bind (wpAny_typeOf ty ?_)
  rw [if_neg (by rw [other]; decide)]
  refine wpAny_bind (wpAny_pyIter_revIter (s := { s with heap := h2 }) hit2 ?_)
  refine wpAny_bind (wpAny_holding ?_)
  unfold Builtin.List.listLengthHint
  refine wpAny_bind (wpAny_specialOf ty RT.nolen_lri ?_)
  show wpAny _ _ (specialOf (Value.ref it) (Str.ofString "__length_hint__") >>= _) _ _ _
  refine wpAny_bind (wpAny_specialOf ty RT.hint_lri ?_)
  generalize hid : ("list_reverseiterator.__length_hint__" : String) = id0
  wp_delta
  rw [show splitId id0 = some ("list_reverseiterator", "__length_hint__") from by subst hid; decide +kernel]
  subst hid
  refine wpAny_bind (wpAny_isInstance (b := true) ty (by rw [isSubtype_type]; kernel_rfl) ?_)
  refine wpAny_pure ?_
  rw [if_neg (by decide)]
  have st : ((items.size : Nat) : Int) - 1 - ((0 : Nat) : Int) = (items.size : Int) - 1 := by omega
  refine wpAny_pure ⟨plainId_quiet PySem.F.plain_extend_loop _, codeAny_extend_loopS W hn _ hf _ items.size 0 _ _ _ rfl (Nat.zero_le _) ⟨Nat.zero_le _, by rw [st]; exact hit2, hl2⟩ hS2 (ItemsOf.nil _) fun s' acc c hm hS' hacc => ?_⟩
  refine ⟨rfl, ?_⟩
  rw [Moved.eq_with hm] at hS' ⊢
  refine hQ s'.heap s'.toks acc c (fun b o hb e => hm.heap b o (fun z => ?_) (keep _ _ e)) hacc hS'
  rcases List.mem_cons.mp z with z | z
  · exact absurd (Heap.lt_size e) (by rw [z]; exact Nat.lt_irrefl _)
  · exact hb (List.mem_singleton.mp z)
end
/-- list(reversed(x)), x a list -/
def tListRev (K : PySem.W.Frag) (te : TE) : TE := fun σ H Q => te σ H fun v H1 => ∃ (a : Addr) (xs : List V), v = .ref a ∧ SqL K H1 a xs ∧ ∀ q, H1 q = none → Q (.ref q) (upd H1 q (.lst xs.reverse))
theorem pe_listRev {X : Cx} {e : Expr} {te : TE} {p p2 pos pos2 : Pos} (hc : X.calm = true) (hg : Gl X "list") (hm : X.mg "list" = none) (hg2 : Gl X "reversed") (hm2 : X.mg "reversed" = none) (he : PE X e te)
    (hs : starEach [e] X.env = (false, eval e X.env) :: starEach [] X.env := by rfl)
    (hs2 : starEach [.Call (.Name "reversed" p2) [e] [] pos2] X.env = (false, eval (.Call (.Name "reversed" p2) [e] [] pos2) X.env) :: starEach [] X.env := by rfl) :
    PE X (.Call (.Name "list" p) [.Call (.Name "reversed" p2) [e] [] pos2] [] pos) (tListRev X.K te) := by
  refine ⟨fun pins s σ H Q I h => Call_ (ld_blt I hg hm boot_list (PyProof.Rows.callWith_type1 (args_cons (Call_ (ld_blt I hg2 hm2 PyProof.Rows.boot_reversed (PyProof.Rows.callWith_type1 (args_cons (thn (he.run pins s σ H _ I h) fun u s1 ⟨v, H1, I1, r1, a, xs, ev, hq, q⟩ => args_nil ?_) hs) hs rfl))) hs2) hs2 rfl))⟩
  subst ev
  obtain rfl : u = Value.ref a := r1
  obtain ⟨its, rv, pl, hz⟩ := I1.list hq
  refine call_reversed_list pl.isList (args_nil ?_)
  have old : ∀ b o, s1.heap.get? b = some o → (s1.heap.push (revObj a ((its.toArray.size : Int) - 1))).get? b = some o := fun b o e => Heap.get?_push_of_some _ e
  have I2 : Inv X pins σ H1 { s1 with heap := s1.heap.push (revObj a ((its.toArray.size : Int) - 1)) } := I1.kept (t' := s1.toks) old
  obtain ⟨f0, f1, f2, f3, f4, f5⟩ := I1.fpOk (H' := H1) (b := s1.heap.objs.size) (Nat.le_refl _) (I1.hok.fresh (Nat.le_refl _))
  have hl := pl.isList
  obtain ⟨ol, hol, _⟩ := id hl
  have small : its.toArray.size ≤ sizeLine := by rw [List.size_toArray, ← rv.length]; exact hz
  have size2 : (s1.heap.push (revObj a ((its.toArray.size : Int) - 1))).objs.size = s1.heap.objs.size + 1 := Heap.size_push ..
  refine list_rev (s := { s1 with heap := s1.heap.push (revObj a ((its.toArray.size : Int) - 1)) }) (I1.ok.hd hc) ⟨_, Heap.get?_push_size _ rfl, rfl, rfl⟩ (hl.push _) (Nat.ne_of_lt (Heap.lt_size hol)) small fun h' tk acc c hk hi hg => ?_
  have hi' := RT.vals_rev rv hi
  -- what stood there stands there, but the iterator
  have I3 : Inv X pins σ H1 { s1 with heap := s1.heap.push (revObj a ((its.toArray.size : Int) - 1)) } := I2
  have J := I3.turnedNew (h' := h') (t' := tk) (ch := [s1.heap.objs.size]) (T := s1.heap.objs.size + 1) (ob := .lst xs.reverse) (fun b o hb e => hk b o (fun z => hb (z ▸ .head _)) e)
    (fun b hb => by
      rw [List.mem_singleton.mp hb]
      exact ⟨f0, f1, f2, f3, f4, f5⟩) (by rw [size2]; exact Nat.le_refl _) ⟨by rw [List.length_reverse]; exact hz, acc.toList, c, hi', by rw [size2] at hg; rw [Array.toArray_toList]; exact hg⟩
  rw [size2]
  exact ⟨.ref (s1.heap.objs.size + 1), _, J, rfl, q _ (I2.hok.fresh (by rw [size2]; exact Nat.le_refl _))⟩
end Tk

set_option Elab.async false
set_option linter.all false
set_option maxRecDepth 100000
set_option maxHeartbeats 4000000
/-! D1: the small checks. -/
namespace Tk
open PySem PySem.Spec PyProof.Rows L2 Dm
/-! ### the data -/
def verbS (b : Bool) : Str := if b = true then "write" else "read"
def deedD (x : Dd Str) : D := .tuple [.str (verbS x.w), .str x.n, .int x.v]
def dealD (d : Dl Str) : D := .tuple [.int d.b, .int d.e, .tuple (d.ds.map deedD)]
def pairD (p : Str × Int) : D := .tuple [.str p.1, .int p.2]
def dealsD (ds : List (Dl Str)) : D := .list (ds.map dealD)
abbrev Vr := List (Str × List Int)
def versK (vs : Vr) : List (Key × D) := vs.map fun p => (.inr p.1, .list (p.2.map .int))
def versD (vs : Vr) : D := .dict (versK vs)
def letters : Str := "abcdefghijklmnopqrstuvwxyz"
def NameOk (s : Str) : Prop := 1 ≤ s.length ∧ s.length ≤ 8 ∧ ∀ c ∈ s.cps.toList, c ∈ letters.cps.toList
def WorthOk (v : Int) : Prop := -(10 ^ 9) ≤ v ∧ v ≤ 10 ^ 9
def DeedOk (x : Dd Str) : Prop := NameOk x.n ∧ WorthOk x.v ∧ (x.w = true → x.v ≠ 0)
def DealOk (d : Dl Str) : Prop := 0 ≤ d.b ∧ d.b < d.e ∧ d.e ≤ 10 ^ 60 ∧ (∀ x ∈ d.ds, DeedOk x) ∧ d.ds.length ≤ 4
def WorthsOk (ns : List Int) : Prop := ns ≠ [] ∧ ns.length ≤ 100 ∧ ns.Nodup ∧ (∀ v ∈ ns, WorthOk v ∧ v ≠ 0)

section
variable {P : Program} {w : World} {K : PySem.W.Frag} {mg : Str → Option Value} {base : Heap}
/-! ### is_whole -/
abbrev s_is_whole : Stmt := topS 7
theorem sc_is_whole : FnScope ["some", "least", "most"] ["some", "least", "most"] (defScope s_is_whole) := ⟨rfl, rfl, rfl, by decide +kernel, rfl, by decide +kernel, by decide +kernel⟩
def pWhole (ds : List D) : Prop := ∃ a l m : Int, ds = [.int a, .int l, .int m]
def rWhole (ds : List D) (r : D) : Prop := ∀ a l m : Int, ds = [.int a, .int l, .int m] → r = .bool (decide (l ≤ a) && decide (a ≤ m))
theorem cal_is_whole (F : DefAt K mg "is_whole" s_is_whole ["some", "least", "most"]) (T : Bt mg) : Cal P w K mg base "is_whole" ["some", "least", "most"] 1 (Ct pWhole rWhole) := by
  refine cal_data F sc_is_whole (fun ds ⟨a, l, m, e⟩ => by rw [e]; rfl) (fun f cdv A outer s H E hr => ?_)
  refine ⟨_, (pss_one (ps_ret (pe_and (pe_callB call_isi (by rfl) T.isinstance_ PyProof.Rows.boot_isinstance (pa_cons (pv 0) (pa_cons (pe_bltn (v := .ty "int") (by rfl) T.int_ (by decide +kernel) rfl) pa_nil))) (pe_and (pe_not (pe_callB call_isi (by rfl) T.isinstance_ PyProof.Rows.boot_isinstance (pa_cons (pv 0) (pa_cons (pe_bltn (v := .ty "bool") (by rfl) T.bool_ (by decide +kernel) rfl) pa_nil)))) (pe_one (pe_chain op_le op_le (pv 1) (pv 0) (pv 2))))))), fun ds ⟨a, l, m, e⟩ => ?_⟩
  subst e
  refine sw_ret (ev_and (isi_int (ev_var rfl)) (fun _ => ev_and (ev_not (isi_bool (ev_var rfl))) (fun _ => ev_chain (ev_var rfl) (ev_var rfl) rv_le (fun _ => ev_var rfl) (fun _ => rv_le)))) ?_
  intro a' l' m' e
  cases e
  rfl
theorem ev_whole {ρ : Ro} {ta : TA} {E : XK} {a l m : Int} (h : EvA ta ρ [.int a, .int l, .int m]) : Ev (tCall (Ct pWhole rWhole) [] E ta) ρ (.bool (decide (l ≤ a) && decide (a ≤ m))) := ev_call h ⟨a, l, m, rfl⟩ fun d' r => r a l m rfl
theorem ev_whole1 {ρ : Ro} {ta : TA} {E : XK} {a l m : Int} (h : EvA ta ρ [.int a, .int l, .int m]) (h1 : l ≤ a) (h2 : a ≤ m) : Ev (tCall (Ct pWhole rWhole) [] E ta) ρ (.bool true) := (ev_whole h).cast (by rw [decide_eq_true h1, decide_eq_true h2]; rfl)
/-! ### is_worth -/
abbrev s_is_worth : Stmt := topS 12
theorem sc_is_worth : FnScope ["some"] ["some"] (defScope s_is_worth) := ⟨rfl, rfl, rfl, by decide +kernel, rfl, by decide +kernel, by decide +kernel⟩
def pWorth (ds : List D) : Prop := ∃ a : Int, ds = [.int a] ∧ WorthOk a
def rTrue (_ : List D) (r : D) : Prop := r = .bool true
theorem cal_is_worth (F : DefAt K mg "is_worth" s_is_worth ["some"]) (T : Bt mg) (C_is_whole : Cal P w K mg base "is_whole" ["some", "least", "most"] 1 (Ct pWhole rWhole)) : Cal P w K mg base "is_worth" ["some"] 2 (Ct pWorth rTrue) := by
  refine cal_data F sc_is_worth (fun ds ⟨a, e, _⟩ => by rw [e]; rfl) (fun f cdv A outer s H E hr => ?_)
  refine ⟨_, (pss_one (ps_ret (pe_callC _ C_is_whole hr (pa_cons (pv 0) (pa_cons (pe_un un_neg (pe_gc T.cMOST_WORTH)) (pa_cons (pe_gc T.cMOST_WORTH) pa_nil)))))), fun ds ⟨a, e, h⟩ => ?_⟩
  subst e
  exact sw_ret (ev_whole1 (ea_cons (ev_var rfl) (ea_cons (ev_un ev_int fun _ _ => rfl) (ea_cons ev_int ea_nil))) h.1 h.2) rfl
theorem ev_worth {ρ : Ro} {ta : TA} {E : XK} {a : Int} (h : EvA ta ρ [.int a]) (p : WorthOk a) : Ev (tCall (Ct pWorth rTrue) [] E ta) ρ (.bool true) := ev_call h ⟨a, rfl, p⟩ fun d' r => r
/-! ### is_name -/
abbrev s_is_name : Stmt := topS 6
theorem sc_is_name : FnScope ["some", "sign"] ["some"] (defScope s_is_name) := ⟨rfl, rfl, rfl, by decide +kernel, rfl, by decide +kernel, by decide +kernel⟩
def pName (ds : List D) : Prop := ∃ s : Str, ds = [.str s] ∧ NameOk s
theorem rv_niSign {ρ : Ro} {c : Nat} {z : Str} (hc : c ∈ z.cps.toList) : RvD (fun x y H Q => ∃ (c : Nat) (z : Str), x = .str ⟨#[c]⟩ ∧ y = .str z ∧ Q (.bl (!decide (c ∈ z.cps.toList))) H) (.str ⟨#[c]⟩) (.str z) (.bool false) := fun F H x y Q hF hx hy k => by
  refine ⟨c, z, hx, hy, k _ F H (Gw.refl hF) ?_⟩
  show V.bl _ = V.bl _
  rw [decide_eq_true hc]
  rfl
theorem cal_is_name (F : DefAt K mg "is_name" s_is_name ["some"]) (T : Bt mg) : Cal P w K mg base "is_name" ["some"] 1 (Ct pName rTrue) := by
  refine cal_data F sc_is_name (fun ds ⟨a, e, _⟩ => by rw [e]; rfl) (fun f cdv A outer s H E hr => ?_)
  refine ⟨_, (pss_cons (ps_if (PW.pt (pw_or (pt_not (pt_val (pe_callB call_isi (by rfl) T.isinstance_ PyProof.Rows.boot_isinstance (pa_cons (pv 0) (pa_cons (pe_bltn (v := .ty "str") (by rfl) T.str_ (by decide +kernel) rfl) pa_nil))))) (pw_or1 (pt_not (pt_chain op_le op_le pe_int (pe_callB call_len_str (by rfl) T.len_ PySem.boot_len (pa_cons (pv 0) pa_nil)) (pe_gc T.cMOST_LETTERS)))))) (pss_one (ps_ret pe_bl)) pss_nil)
      (pss_cons (ps_for PassesOwn.never rfl (pi_str (pv 0)) (pg_name (i := 1) sc_is_name.nd rfl (.inl rfl) (.inl rfl)) (pss_one (ps_if (pt_cmpR op_notIn_sign (pv 1) (pe_gc T.cLETTERS) (by rfl)) (pss_one (ps_ret pe_bl)) pss_nil)))
      (pss_one (ps_ret pe_bl)))), fun ds ⟨a, e, h1, h2, h3⟩ => ?_⟩
  subst e
  refine sw_seq (sw_if (et_or (et_not (et_val (isi_str (ev_var rfl)))) (fun _ => et_not (et_test (ev_chain ev_int (ev_lenS (ev_var rfl) (by omega)) rv_le (fun _ => ev_int) (fun _ => rv_le))))) (fun c => ?_) (fun _ => sw_next ?_))
  · exfalso
    rw [decide_eq_true (show (1 : Int) ≤ (a.length : Int) by omega), decide_eq_true (show (a.length : Int) ≤ 8 by omega)] at c
    exact absurd c (by decide)
  · refine sw_seq (sw_for [1] (wk_str (ev_var rfl)) (fun _ ρ => ρ = [.im (.str a), .no]) rfl (fun i d ρ hd e => ?_) (fun ρ e => ?_))
    · subst e
      obtain ⟨c, hc, rfl⟩ := List.mem_map.mp (List.mem_of_getElem? hd)
      refine ⟨_, _, tg_name, sw_if (et_test (ev_op (ev_var rfl) ev_str (rv_niSign (ρ := []) (h3 c hc)))) (fun z => nomatch z) (fun _ => sw_next rfl)⟩
    · subst e
      exact sw_ret ev_bl rfl
theorem ev_name {ρ : Ro} {ta : TA} {E : XK} {a : Str} (h : EvA ta ρ [.str a]) (p : NameOk a) : Ev (tCall (Ct pName rTrue) [] E ta) ρ (.bool true) := ev_call h ⟨a, rfl, p⟩ fun d' r => r
/-! ### is_dealing_deed -/
abbrev s_is_dealing_deed : Stmt := topS 13
theorem sc_is_dealing_deed : FnScope ["some"] ["some"] (defScope s_is_dealing_deed) := ⟨rfl, rfl, rfl, by decide +kernel, rfl, by decide +kernel, by decide +kernel⟩
def pDeed (ds : List D) : Prop := ∃ x : Dd Str, ds = [deedD x] ∧ DeedOk x
theorem cal_is_dealing_deed (F : DefAt K mg "is_dealing_deed" s_is_dealing_deed ["some"]) (T : Bt mg) (C_is_name : Cal P w K mg base "is_name" ["some"] 1 (Ct pName rTrue)) (C_is_worth : Cal P w K mg base "is_worth" ["some"] 2 (Ct pWorth rTrue)) :
    Cal P w K mg base "is_dealing_deed" ["some"] 3 (Ct pDeed rTrue) := by
  refine cal_data F sc_is_dealing_deed (fun ds ⟨a, e, _⟩ => by rw [e]; rfl) (fun f cdv A outer s H E hr => ?_)
  have hu := hu_of hr
  refine ⟨_, (pss_cons (ps_if (PW.pt (pw_or (pt_not (pt_val (pe_callB call_isi (by rfl) T.isinstance_ PyProof.Rows.boot_isinstance (pa_cons (pv 0) (pa_cons (pe_bltn (v := .ty "tuple") (by rfl) T.tuple_ (by decide +kernel) rfl) pa_nil))))) (pw_or (pt_cmpR op_ne (pe_callB call_len_seq (by rfl) T.len_ PySem.boot_len (pa_cons (pv 0) pa_nil)) pe_int (nomark _)) (pw_or1 (pt_not (pt_val (pe_callB call_isi (by rfl) T.isinstance_ PyProof.Rows.boot_isinstance (pa_cons (pe_ix ix_tup (pv 0) pe_int (fun _ _ => rfl)) (pa_cons (pe_bltn (v := .ty "str") (by rfl) T.str_ (by decide +kernel) rfl) pa_nil))))))))) (pss_one (ps_ret pe_bl)) pss_nil)
      (pss_cons (ps_if (PW.pt (pw_or (pt_cmpR op_notIn_seq (pe_ix ix_tup (pv 0) pe_int (fun _ _ => rfl)) (pe_tup (pa_cons pe_str (pa_cons pe_str pa_nil))) (by rfl)) (pw_or (pt_not (pt_val (pe_callC _ C_is_name hr (pa_cons (pe_ix ix_tup (pv 0) pe_int (fun _ _ => rfl)) pa_nil)))) (pw_or1 (pt_not (pt_val (pe_callC _ C_is_worth hr (pa_cons (pe_ix ix_tup (pv 0) pe_int (fun _ _ => rfl)) pa_nil)))))))) (pss_one (ps_ret pe_bl)) pss_nil)
      (pss_one (ps_ret (pe_or (pe_cmpR op_eq (pe_ix ix_tup (pv 0) pe_int (fun _ _ => rfl)) pe_str (nomark _)) (pe_one (pe_cmpR op_ne (pe_ix ix_tup (pv 0) pe_int (fun _ _ => rfl)) pe_int (nomark _)))))))), fun ds ⟨x, e, h1, h2, h3⟩ => ?_⟩
  subst e
  have hx : Ev (tVar 0) (ro ["some"] [deedD x]) (.tuple [.str (verbS x.w), .str x.n, .int x.v]) := ev_var rfl
  have e0 : Ev (tOp (rIxT K) (tVar 0) (tC (.int 0))) (ro ["some"] [deedD x]) (.str (verbS x.w)) := ev_op hx ev_int (rv_ixT rfl)
  have e1 : Ev (tOp (rIxT K) (tVar 0) (tC (.int 1))) (ro ["some"] [deedD x]) (.str x.n) := ev_op hx ev_int (rv_ixT rfl)
  have e2 : Ev (tOp (rIxT K) (tVar 0) (tC (.int 2))) (ro ["some"] [deedD x]) (.int x.v) := ev_op hx ev_int (rv_ixT rfl)
  refine sw_seq (sw_if (et_or (et_not (et_val (isi_tuple hx))) (fun _ => et_or (et_test (ev_op (ev_lenT hx) ev_int rv_neI)) (fun _ => et_not (et_val (isi_str e0))))) (fun c => by simp at c) (fun _ => sw_next ?_))
  refine sw_seq (sw_if (et_or (et_test (ev_op e0 (ev_tup (ea_cons ev_str (ea_cons ev_str ea_nil)) (by decide)) (rv_niT ["read", "write"] rfl))) (fun _ => et_or (et_not (et_val (ev_name (ea_cons e1 ea_nil) h1))) (fun _ => et_not (et_val (ev_worth (ea_cons e2 ea_nil) h2))))) (fun c => ?_) (fun _ => sw_next ?_))
  · exfalso
    cases hw : x.w with
    | true =>
      rw [hw] at c
      exact absurd c (by decide +kernel)
    | false =>
      rw [hw] at c
      exact absurd c (by decide +kernel)
  · refine sw_ret (ev_or (ev_op e0 ev_str rv_eqS) (fun _ => ev_op e2 ev_int rv_neI)) ?_
    show D.bool _ = D.bool true
    cases hw : x.w with
    | true =>
      have h := h3 hw
      rw [decide_eq_false h]
      simp
    | false =>
      have : verbS false = "read" := rfl
      rw [this]
      simp
theorem ev_deed {ρ : Ro} {ta : TA} {E : XK} {x : Dd Str} (h : EvA ta ρ [deedD x]) (p : DeedOk x) : Ev (tCall (Ct pDeed rTrue) [] E ta) ρ (.bool true) := ev_call h ⟨x, rfl, p⟩ fun d' r => r
/-! ### is_dealing -/
abbrev s_is_dealing : Stmt := topS 14
theorem sc_is_dealing : FnScope ["some", "deed"] ["some"] (defScope s_is_dealing) := ⟨rfl, rfl, rfl, by decide +kernel, rfl, by decide +kernel, by decide +kernel⟩
def pDeal (ds : List D) : Prop := ∃ d : Dl Str, ds = [dealD d] ∧ DealOk d
theorem cal_is_dealing (F : DefAt K mg "is_dealing" s_is_dealing ["some"]) (T : Bt mg) (C_is_whole : Cal P w K mg base "is_whole" ["some", "least", "most"] 1 (Ct pWhole rWhole)) (C_is_dealing_deed : Cal P w K mg base "is_dealing_deed" ["some"] 3 (Ct pDeed rTrue)) :
    Cal P w K mg base "is_dealing" ["some"] 4 (Ct pDeal rTrue) := by
  refine cal_data F sc_is_dealing (fun ds ⟨a, e, _⟩ => by rw [e]; rfl) (fun f cdv A outer s H E hr => ?_)
  refine ⟨_, (pss_cons (ps_if (PW.pt (pw_or (pt_not (pt_val (pe_callB call_isi (by rfl) T.isinstance_ PyProof.Rows.boot_isinstance (pa_cons (pv 0) (pa_cons (pe_bltn (v := .ty "tuple") (by rfl) T.tuple_ (by decide +kernel) rfl) pa_nil))))) (pw_or (pt_cmpR op_ne (pe_callB call_len_seq (by rfl) T.len_ PySem.boot_len (pa_cons (pv 0) pa_nil)) pe_int (nomark _)) (pw_or1 (pt_not (pt_val (pe_callB call_isi (by rfl) T.isinstance_ PyProof.Rows.boot_isinstance (pa_cons (pe_ix ix_tup (pv 0) pe_int (fun _ _ => rfl)) (pa_cons (pe_bltn (v := .ty "tuple") (by rfl) T.tuple_ (by decide +kernel) rfl) pa_nil))))))))) (pss_one (ps_ret pe_bl)) pss_nil)
      (pss_cons (ps_if (PW.pt (pw_or (pt_not (pt_val (pe_callC _ C_is_whole hr (pa_cons (pe_ix ix_tup (pv 0) pe_int (fun _ _ => rfl)) (pa_cons pe_int (pa_cons (pe_gc T.cMOST_MOMENT) pa_nil)))))) (pw_or (pt_not (pt_val (pe_callC _ C_is_whole hr (pa_cons (pe_ix ix_tup (pv 0) pe_int (fun _ _ => rfl)) (pa_cons pe_int (pa_cons (pe_gc T.cMOST_MOMENT) pa_nil)))))) (pw_or1 (pt_cmpR op_ge (pe_ix ix_tup (pv 0) pe_int (fun _ _ => rfl)) (pe_ix ix_tup (pv 0) pe_int (fun _ _ => rfl)) (nomark _)))))) (pss_one (ps_ret pe_bl)) pss_nil)
      (pss_cons (ps_for PassesOwn.never rfl (pi_tup (pe_ix ix_tup (pv 0) pe_int (fun _ _ => rfl))) (pg_name (i := 1) sc_is_dealing.nd rfl (.inl rfl) (.inl rfl)) (pss_one (ps_if (pt_not (pt_val (pe_callC _ C_is_dealing_deed hr (pa_cons (pv 1) pa_nil)))) (pss_one (ps_ret pe_bl)) pss_nil)))
      (pss_one (ps_ret pe_bl))))), fun ds ⟨d, e, h0, h1, h2, h3, _⟩ => ?_⟩
  subst e
  have hx : Ev (tVar 0) (ro ["some", "deed"] [dealD d]) (.tuple [.int d.b, .int d.e, .tuple (d.ds.map deedD)]) := ev_var rfl
  have e0 : Ev (tOp (rIxT K) (tVar 0) (tC (.int 0))) (ro ["some", "deed"] [dealD d]) (.int d.b) := ev_op hx ev_int (rv_ixT rfl)
  have e1 : Ev (tOp (rIxT K) (tVar 0) (tC (.int 1))) (ro ["some", "deed"] [dealD d]) (.int d.e) := ev_op hx ev_int (rv_ixT rfl)
  have e2 : Ev (tOp (rIxT K) (tVar 0) (tC (.int 2))) (ro ["some", "deed"] [dealD d]) (.tuple (d.ds.map deedD)) := ev_op hx ev_int (rv_ixT rfl)
  refine sw_seq (sw_if (et_or (et_not (et_val (isi_tuple hx))) (fun _ => et_or (et_test (ev_op (ev_lenT hx) ev_int rv_neI)) (fun _ => et_not (et_val (isi_tuple e2))))) (fun c => by simp at c) (fun _ => sw_next ?_))
  refine sw_seq (sw_if (et_or (et_not (et_val (ev_whole1 (ea_cons e0 (ea_cons ev_int (ea_cons ev_int ea_nil))) h0 (by omega)))) (fun _ => et_or (et_not (et_val (ev_whole1 (ea_cons e1 (ea_cons ev_int (ea_cons ev_int ea_nil))) (by omega) h2))) (fun _ => et_test (ev_op e0 e1 rv_ge)))) (fun c => ?_) (fun _ => sw_next ?_))
  · rw [decide_eq_false (show ¬ d.e ≤ d.b by omega)] at c
    exact absurd c (by decide)
  · refine sw_seq (sw_for [1] (wk_tup e2) (fun _ ρ => ρ = [.im (dealD d), .no]) rfl (fun i x ρ hx e => ?_) (fun ρ e => ?_))
    · subst e
      obtain ⟨y, hy, rfl⟩ := List.mem_map.mp (List.mem_of_getElem? hx)
      exact ⟨_, _, tg_name, sw_if (et_not (et_val (ev_deed (ea_cons (ev_var rfl) ea_nil) (h3 y hy)))) (fun z => nomatch z) (fun _ => sw_next rfl)⟩
    · subst e
      exact sw_ret ev_bl rfl
theorem ev_deal {ρ : Ro} {ta : TA} {E : XK} {x : Dl Str} (h : EvA ta ρ [dealD x]) (p : DealOk x) : Ev (tCall (Ct pDeal rTrue) [] E ta) ρ (.bool true) := ev_call h ⟨x, rfl, p⟩ fun d' r => r
end
end Tk

set_option Elab.async false
set_option linter.all false
set_option maxRecDepth 100000
set_option maxHeartbeats 4000000
/-! D2: what is written, the versions' fit, what is refused. -/
namespace Tk
open PySem PySem.Spec PyProof.Rows L2 Dm
/-- dealings with their versions, as they come -/
structure Good (ds : List (Dl Str)) (vs : Vr) : Prop where
  n1 : 1 ≤ ds.length
  n12 : ds.length ≤ 12
  dl : ∀ d ∈ ds, DealOk d
  kn : (vs.map (·.1)).Nodup
  nm : ∀ p ∈ vs, NameOk p.1 ∧ WorthsOk p.2
  nv : vs.length ≤ 100
  fit : Fit ds (vlOf vs)
  sum : (vs.map fun p => p.2.length).sum = (allW ds).length
theorem allW_len {ds : List (Dl Str)} (h : ∀ d ∈ ds, DealOk d) : (allW ds).length ≤ 4 * ds.length := by
  unfold allW
  induction ds with
  | nil => exact Nat.le_refl _
  | cons d r ih =>
    rw [List.flatMap_cons, List.length_append, List.length_cons]
    have h1 := ih fun x hx => h x (List.mem_cons_of_mem _ hx)
    have h2 : (wb d.ds).length ≤ d.ds.length := List.length_filterMap_le _ _
    have h3 := (h d List.mem_cons_self).2.2.2.2
    omega
theorem Good.few {ds : List (Dl Str)} {vs : Vr} (G : Good ds vs) : (allW ds).length ≤ 48 := by
  have := allW_len G.dl
  have := G.n12
  omega
/-- the data of the versions, looked up -/
theorem versK_get (vs : Vr) (n : Str) : getD' (versK vs) (.inr n) = ((vs.find? fun p => decide (p.1 = n)).map fun p => D.list (p.2.map .int)) := by
  unfold getD' versK
  rw [List.find?_map, Option.map_map]
  have e : ((fun kv : Key × D => decide (kv.1 = .inr n)) ∘ fun p : Str × List Int => ((.inr p.1, D.list (p.2.map .int)) : Key × D)) = fun p => decide (p.1 = n) := by
    funext p
    show decide ((Sum.inr p.1 : Key) = Sum.inr n) = decide (p.1 = n)
    by_cases c : p.1 = n
    · simp [c]
    · rw [decide_eq_false c, decide_eq_false fun z => c (Sum.inr.inj z)]
  rw [e]
  rfl
theorem versK_some {vs : Vr} (hn : (vs.map (·.1)).Nodup) {p : Str × List Int} (h : p ∈ vs) : getD' (versK vs) (.inr p.1) = some (.list (p.2.map .int)) := by
  rw [versK_get, (vlOf_mem hn h).1]
  rfl
theorem versK_len (vs : Vr) : (versK vs).length = vs.length := by unfold versK; rw [List.length_map]
theorem noDk_ints (l : List Int) : noDks (l.map D.int) = true := by
  induction l with
  | nil => rfl
  | cons x l ih => rw [List.map_cons]; show (noDk (.int x) && noDks (l.map D.int)) = true; rw [ih]; rfl
theorem noDk_vers (vs : Vr) : noDkK (versK vs) = true := by
  induction vs with
  | nil => rfl
  | cons p r ih =>
    show (noDk (.list (p.2.map .int)) && noDkK (versK r)) = true
    rw [ih]
    show (noDks (p.2.map .int) && true) = true
    rw [noDk_ints]
    rfl
theorem nodks_map {α : Type} (f : α → D) : ∀ l : List α, (∀ x ∈ l, noDk (f x) = true) → noDks (l.map f) = true
  | [], _ => rfl
  | x :: l, h => by
    rw [List.map_cons]
    show (noDk (f x) && noDks (l.map f)) = true
    rw [h x List.mem_cons_self, nodks_map f l fun y hy => h y (List.mem_cons_of_mem _ hy)]
    rfl
theorem noDk_deals (ds : List (Dl Str)) : noDk (dealsD ds) = true := nodks_map _ ds fun d _ => by
  show (true && (true && (noDks (d.ds.map deedD) && true))) = true
  rw [nodks_map deedD d.ds fun _ _ => rfl]
  rfl
theorem letters_cps : letters.cps.toList.all (· < 0x110000) = true := by decide +kernel
theorem name_ok {s : Str} (h : NameOk s) : PyData.strOk s = true := by
  unfold PyData.strOk
  rw [Array.all_eq_true']
  intro c hc
  exact List.all_eq_true.mp letters_cps c (h.2.2 c (by simpa using hc))
theorem ok_pairs {l : List (Str × Int)} (h : ∀ p ∈ l, NameOk p.1) : okD (.list (l.map pairD)) = true := ok_list fun p hp => ⟨by
  show (PyData.strOk p.1 && (true && true)) = true
  rw [name_ok (h p hp)]
  rfl, by show max 0 (max 0 0) + 1 ≤ 2; omega⟩
theorem ok_pair {p : Str × Int} (h : NameOk p.1) : okD (pairD p) = true := by
  unfold okD SeqAt.shaped
  rw [Bool.and_eq_true, decide_eq_true_eq]
  refine ⟨?_, by show max 0 (max 0 0) + 1 ≤ 64; omega⟩
  show (PyData.strOk p.1 && (true && true)) = true
  rw [name_ok h]
  rfl
theorem eqv_pair (p q : Str × Int) : PyData.eqv (toPy (pairD p)) (toPy (pairD q)) = decide (p = q) := by
  show ((p.1 == q.1) && ((p.2 == q.2) && true)) = _
  by_cases c1 : p.1 = q.1
  · by_cases c2 : p.2 = q.2
    · have e : p = q := Prod.ext c1 c2
      simp [e]
    · have e : ¬ p = q := fun z => c2 (by rw [z])
      simp [c2, e]
  · have e : ¬ p = q := fun z => c1 (by rw [z])
    simp [c1, e]
theorem any_pair (l : List (Str × Int)) (p : Str × Int) : ((toPys (l.map pairD)).any fun z => PyData.eqv z (toPy (pairD p))) = decide (p ∈ l) := by
  rw [toPys_map, List.any_map]
  induction l with
  | nil => rfl
  | cons q l ih =>
    rw [List.any_cons, ih]
    show (PyData.eqv (toPy (pairD q)) (toPy (pairD p)) || _) = _
    rw [eqv_pair]
    by_cases c : q = p
    · simp [c]
    · have c' : ¬ p = q := fun z => c z.symm
      simp [c, c']
section
variable {P : Program} {w : World} {K : PySem.W.Frag} {mg : Str → Option Value} {base : Heap}
theorem verb_write (b : Bool) : decide (verbS b = ("write" : Str)) = b := by cases b <;> decide +kernel
theorem verb_read (b : Bool) : decide (verbS b = ("read" : Str)) = !b := by cases b <;> decide +kernel
/-! ### written_by -/
abbrev s_written_by : Stmt := topS 15
theorem sc_written_by : FnScope ["dealing", "verb", "name", "worth"] ["dealing"] (defScope s_written_by) := ⟨rfl, rfl, rfl, by decide +kernel, rfl, by decide +kernel, by decide +kernel⟩
def pWr (ds : List D) : Prop := ∃ d : Dl Str, ds = [dealD d] ∧ d.ds.length ≤ 100
def rWr (ds : List D) (r : D) : Prop := ∀ d : Dl Str, ds = [dealD d] → ∃ l : List (Str × Int), r = .list (l.map pairD) ∧ l = wb d.ds
theorem deedD_inj {x y : Dd Str} (h : deedD x = deedD y) : x = y := by
  unfold deedD at h
  injection h with h
  injection h with h1 h
  injection h with h2 h
  injection h with h3 h
  injection h1 with h1
  injection h2 with h2
  injection h3 with h3
  have hw : x.w = y.w := by
    cases hx : x.w <;> cases hy : y.w <;> first | rfl | (rw [hx, hy] at h1; exact absurd h1 (by decide +kernel))
  cases x
  cases y
  simp only at h2 h3 hw
  rw [h2, h3, hw]
theorem map_inj' {α β : Type} {f : α → β} (hf : ∀ x y, f x = f y → x = y) : ∀ {l m : List α}, l.map f = m.map f → l = m
  | [], [], _ => rfl
  | [], _ :: _, h => nomatch h
  | _ :: _, [], h => nomatch h
  | x :: l, y :: m, h => by
    rw [List.map_cons, List.map_cons] at h
    injection h with h1 h2
    rw [hf x y h1, map_inj' hf h2]
theorem dealD_inj {x y : Dl Str} (h : dealD x = dealD y) : x = y := by
  unfold dealD at h
  injection h with h
  injection h with h1 h
  injection h with h2 h
  injection h with h3 h
  injection h1 with h1
  injection h2 with h2
  injection h3 with h3
  have h3 := map_inj' (fun _ _ => deedD_inj) h3
  cases x
  cases y
  simp only at h1 h2 h3
  rw [h1, h2, h3]
theorem cal_written_by (F : DefAt K mg "written_by" s_written_by ["dealing"]) (T : Bt mg) : Cal P w K mg base "written_by" ["dealing"] 1 (Ct pWr rWr) := by
  refine cal_data F sc_written_by (fun ds ⟨a, e, _⟩ => by rw [e]; rfl) (fun f cdv A outer s H E hr => ?_)
  refine ⟨_, (pss_one (ps_ret (pe_lc (own := [("verb", 1), ("name", 2), ("worth", 3)]) (g := gTup K 3 (gCons (gName 1) (gCons (gName 2) (gCons (gName 3) (gNil))))) (by rfl) sc_written_by.nd (pi_tup (pe_ix ix_tup (pv 0) pe_int (fun _ _ => rfl))) (blkOk_by (own := [("verb", 1), ("name", 2), ("worth", 3)]) (N := ["dealing", "verb", "name", "worth"]) (sc := defScope s_written_by) (by decide +kernel)) (fun _ _ _ _ _ => (pg_tup rfl (pgs_cons (pg_name (i := 1) sc_written_by.nd rfl (.inl rfl) (.inr rfl)) (pgs_cons (pg_name (i := 2) sc_written_by.nd rfl (.inl rfl) (.inr rfl)) (pgs_cons (pg_name (i := 3) sc_written_by.nd rfl (.inl rfl) (.inr rfl)) pgs_nil))))) (fun _ _ _ _ _ => pts_one (pt_cmpR op_eq (pv 1) pe_str (nomark _))) (fun _ _ _ _ _ => (pe_tup (pa_cons (pv 2) (pa_cons (pv 3) pa_nil))))))), fun ds ⟨d, e, hl⟩ => ?_⟩
  subst e
  have hx : Ev (tVar 0) (ro ["dealing", "verb", "name", "worth"] [dealD d]) (.tuple [.int d.b, .int d.e, .tuple (d.ds.map deedD)]) := ev_var rfl
  refine sw_ret (EvN.ev (en_lc d.ds deedD (wk_tup (ev_op hx ev_int (rv_ixT rfl))) (fun x => (if x.w = true then some (x.n, x.v) else none : Option (Str × Int)).map pairD) (by omega) (fun i x _ => ?_))) (fun d' e' => ?_)
  · refine ⟨_, _, tg_tup (tgs_cons tg_name (tgs_cons tg_name (tgs_cons tg_name tgs_nil))), by decide, ?_, fun e he => ?_⟩
    · refine (et_test (ev_op (ev_var rfl) ev_str rv_eqS)).cast ?_
      rw [verb_write]
      cases x.w <;> rfl
    · cases hw : x.w with
      | false =>
        rw [hw] at he
        exact nomatch he
      | true =>
        rw [hw] at he
        cases he
        exact ev_tup (ea_cons (ev_var rfl) (ea_cons (ev_var rfl) ea_nil)) (by simp)
  · have e2 : d = d' := dealD_inj (List.cons.inj e').1
    subst e2
    refine ⟨wb d.ds, ?_, rfl⟩
    unfold wb
    rw [List.map_filterMap]
theorem ev_written {ρ : Ro} {ta : TA} {E : XK} {d : Dl Str} (h : EvA ta ρ [dealD d]) (hl : d.ds.length ≤ 100) : Ev (tCall (Ct pWr rWr) [] E ta) ρ (.list ((wb d.ds).map pairD)) := ev_call h ⟨d, rfl, hl⟩ fun d' r => by
  obtain ⟨l, e, e2⟩ := r d rfl
  rw [e, e2]
/-! ### are_worths -/
abbrev s_are_worths : Stmt := topS 16
theorem sc_are_worths : FnScope ["some", "at", "worth"] ["some"] (defScope s_are_worths) := ⟨rfl, rfl, rfl, by decide +kernel, rfl, by decide +kernel, by decide +kernel⟩
def pWorths (ds : List D) : Prop := ∃ ns : List Int, ds = [.list (ns.map .int)] ∧ WorthsOk ns
theorem cal_are_worths (F : DefAt K mg "are_worths" s_are_worths ["some"]) (T : Bt mg) (C_is_worth : Cal P w K mg base "is_worth" ["some"] 2 (Ct pWorth rTrue)) : Cal P w K mg base "are_worths" ["some"] 3 (Ct pWorths rTrue) := by
  refine cal_data F sc_are_worths (fun ds ⟨a, e, _⟩ => by rw [e]; rfl) (fun f cdv A outer s H E hr => ?_)
  refine ⟨_, (pss_cons (ps_if (PW.pt (pw_or (pt_not (pt_val (pe_callB call_isi (by rfl) T.isinstance_ PyProof.Rows.boot_isinstance (pa_cons (pv 0) (pa_cons (pe_bltn (v := .ty "list") (by rfl) T.list_ (by decide +kernel) rfl) pa_nil))))) (pw_or1 (pt_cmpR (op_eqD hr.units) (pv 0) (pe_lst pa_nil) (nomark _))))) (pss_one (ps_ret pe_bl)) pss_nil)
      (pss_cons (ps_for PassesOwn.never rfl (pi_enum (by rfl) T.enumerate_ (pa_cons (pv 0) pa_nil)) (pg_tup rfl (pgs_cons (pg_name (i := 1) sc_are_worths.nd rfl (.inl rfl) (.inl rfl)) (pgs_cons (pg_name (i := 2) sc_are_worths.nd rfl (.inl rfl) (.inl rfl)) pgs_nil))) (pss_one (ps_if (PW.pt (pw_or (pt_not (pt_val (pe_callC _ C_is_worth hr (pa_cons (pv 2) pa_nil)))) (pw_or (pt_cmpR op_eq (pv 2) pe_int (nomark _)) (pw_or1 (pt_cmpR op_in_seq (pv 2) (pe_slice sl_list (pv 0) po_none (po_some (pv 1))) (by rfl)))))) (pss_one (ps_ret pe_bl)) pss_nil)))
      (pss_one (ps_ret pe_bl)))), fun ds ⟨ns, e, h1, h2, h3, h4⟩ => ?_⟩
  subst e
  refine sw_seq (sw_if (et_or (et_not (et_val (isi_list (ev_var rfl)))) (fun _ => et_test (ev_op (ev_var rfl) (EvN.ev (en_lst ea_nil (by decide))) (rv_eqD (ok_ints ns) (ok_ints []))))) (fun c => ?_) (fun _ => sw_next ?_))
  · have e := eqvD_ints ns []
    rw [show (D.list (List.map D.int [])) = D.list [] from rfl] at e
    rw [e, decide_eq_false h1] at c
    exact absurd c (by decide)
  · refine sw_seq (sw_forE [1, 2] ns D.int (wk_enum (ea_cons (ev_var rfl) ea_nil)) (fun _ ρ => ρ = [.im (.list (ns.map .int)), .no, .no]) rfl (fun i x ρ hx e => ?_) (fun ρ e => ?_))
    · subst e
      have hi := (List.getElem?_eq_some_iff.mp hx).1
      have hm := List.mem_of_getElem? hx
      refine ⟨_, _, tg_tup (tgs_cons tg_name (tgs_cons tg_name tgs_nil)), ?_⟩
      have nin : x ∉ ns.take i := fun m => by
        obtain ⟨j, hj, ej⟩ := List.mem_iff_getElem.mp m
        rw [List.length_take] at hj
        have := List.pairwise_iff_getElem.mp h3 j i (by omega) hi (by omega)
        rw [List.getElem_take] at ej
        exact this (ej.trans (List.getElem?_eq_some_iff.mp hx).2.symm)
      refine sw_if (et_or (et_not (et_val (ev_worth (ea_cons (ev_var rfl) ea_nil) (h4 x hm).1))) (fun _ => et_or (et_test (ev_op (ev_var rfl) ev_int rv_eqI)) (fun _ => et_test (ev_op (ev_var rfl) ((EvN.ev (en_slL (ev_var rfl) eo_none (eo_some (ev_var rfl)))).cast (by rw [cut_take, map_take'])) rv_inL)))) (fun c => ?_) (fun _ => sw_next rfl)
      rw [decide_eq_false (h4 x hm).2, decide_eq_false nin] at c
      exact absurd c (by decide)
    · subst e
      exact sw_ret ev_bl rfl
theorem ev_worths {ρ : Ro} {ta : TA} {E : XK} {ns : List Int} (h : EvA ta ρ [.list (ns.map .int)]) (p : WorthsOk ns) : Ev (tCall (Ct pWorths rTrue) [] E ta) ρ (.bool true) := ev_call h ⟨ns, rfl, p⟩ fun d' r => r
end
end Tk

set_option Elab.async false
set_option linter.all false
set_option maxRecDepth 100000
set_option maxHeartbeats 4000000
/-! D3: the versions' fit; nothing is refused. -/
namespace Tk
open PySem PySem.Spec PyProof.Rows L2 Dm
theorem getD_put {κ : Type} [DecidableEq κ] (kds : List (κ × D)) (k k' : κ) (d : D) : getD' (putD kds k d) k' = if k' = k then some d else getD' kds k' := by
  unfold putD
  by_cases c : (kds.any fun kv => decide (kv.1 = k)) = true
  · rw [if_pos c]
    unfold getD'
    rw [List.find?_map, Option.map_map]
    induction kds with
    | nil => cases c
    | cons p r ih =>
      rw [List.find?_cons, List.find?_cons]
      by_cases e : p.1 = k
      · by_cases e2 : k' = k
        · rw [if_pos e2]
          have e3 : ((fun kv : κ × D => decide (kv.1 = k')) ∘ fun kv => if kv.1 = k then (kv.1, d) else kv) p = true := by
            show decide ((if p.1 = k then (p.1, d) else p).1 = k') = true
            rw [if_pos e]
            exact decide_eq_true (e.trans e2.symm)
          rw [e3]
          show some ((if p.1 = k then (p.1, d) else p).2) = some d
          rw [if_pos e]
        · rw [if_neg e2]
          have ne : ¬ p.1 = k' := fun z => e2 (z.symm.trans e)
          have e3 : ((fun kv : κ × D => decide (kv.1 = k')) ∘ fun kv => if kv.1 = k then (kv.1, d) else kv) p = false := by
            show decide ((if p.1 = k then (p.1, d) else p).1 = k') = false
            rw [if_pos e]
            exact decide_eq_false ne
          rw [e3, decide_eq_false ne]
          by_cases c2 : (r.any fun kv => decide (kv.1 = k)) = true
          · have := ih c2
            rw [if_neg e2] at this
            exact this
          · -- none further: nothing is changed
            clear ih c e3
            induction r with
            | nil => rfl
            | cons q r ih =>
              rw [List.any_cons, Bool.or_eq_true, not_or] at c2
              have nq : ¬ q.1 = k := fun z => c2.1 (decide_eq_true z)
              rw [List.find?_cons, List.find?_cons]
              have e4 : ((fun kv : κ × D => decide (kv.1 = k')) ∘ fun kv => if kv.1 = k then (kv.1, d) else kv) q = decide (q.1 = k') := by
                show decide ((if q.1 = k then (q.1, d) else q).1 = k') = _
                rw [if_neg nq]
              rw [e4]
              by_cases c3 : q.1 = k'
              · rw [decide_eq_true c3]
                show some ((if q.1 = k then (q.1, d) else q).2) = some q.2
                rw [if_neg nq]
              · rw [decide_eq_false c3]
                exact ih c2.2
      · have c2 : (r.any fun kv => decide (kv.1 = k)) = true := by
          rw [List.any_cons, decide_eq_false e, Bool.false_or] at c
          exact c
        have e4 : ((fun kv : κ × D => decide (kv.1 = k')) ∘ fun kv => if kv.1 = k then (kv.1, d) else kv) p = decide (p.1 = k') := by
          show decide ((if p.1 = k then (p.1, d) else p).1 = k') = _
          rw [if_neg e]
        rw [e4]
        by_cases c3 : p.1 = k'
        · rw [decide_eq_true c3, if_neg (fun z => e (c3.trans z))]
          show some ((if p.1 = k then (p.1, d) else p).2) = some p.2
          rw [if_neg e]
        · rw [decide_eq_false c3]
          exact ih c2
  · rw [if_neg c]
    unfold getD'
    rw [List.find?_append]
    by_cases e : k' = k
    · rw [if_pos e]
      have none : kds.find? (fun kv => decide (kv.1 = k')) = none := by
        rw [List.find?_eq_none]
        intro x hx q
        exact c (List.any_eq_true.mpr ⟨x, hx, by rw [← e]; exact q⟩)
      rw [none]
      simp [e]
    · rw [if_neg e]
      have e2 : ¬ k = k' := fun z => e z.symm
      simp [List.find?_cons, e2]
/-- the last places of a dealing's own names -/
def LastOk (vl : Str → List Int) (pre : List (Str × Int)) (kds : List (Key × D)) : Prop := kds.length ≤ pre.length ∧ ∀ n dd, getD' kds (.inr n) = some dd → ∃ u, (n, u) ∈ pre ∧ dd = .int (((vl n).idxOf u : Nat) : Int)
theorem LastOk.put {vl : Str → List Int} {pre : List (Str × Int)} {kds : List (Key × D)} (h : LastOk vl pre kds) (n : Str) (u : Int) : LastOk vl (pre ++ [(n, u)]) (putD kds (.inr n) (.int (((vl n).idxOf u : Nat) : Int))) := by
  refine ⟨?_, fun m dd e => ?_⟩
  · have := putD_len kds (.inr n) (.int (((vl n).idxOf u : Nat) : Int))
    have := h.1
    rw [List.length_append, List.length_singleton]
    omega
  · rw [getD_put] at e
    by_cases c : (Sum.inr m : Key) = Sum.inr n
    · rw [if_pos c] at e
      have c := Sum.inr.inj c
      subst c
      exact ⟨u, by simp, (Option.some.inj e).symm⟩
    · rw [if_neg c] at e
      obtain ⟨u', a, b⟩ := h.2 m dd e
      exact ⟨u', List.mem_append_left _ a, b⟩
theorem vers_others {X : List Ent} : True := True.intro
section
variable {P : Program} {w : World} {K : PySem.W.Frag} {mg : Str → Option Value} {base : Heap}
/-! ### versions_fit -/
abbrev s_versions_fit : Stmt := topS 17
theorem sc_versions_fit : FnScope ["dealings", "versions", "many", "name", "told", "dealing", "last", "worth", "place"] ["dealings", "versions"] (defScope s_versions_fit) := ⟨rfl, rfl, rfl, by decide +kernel, rfl, by decide +kernel, by decide +kernel⟩
def pGood (ds : List D) : Prop := ∃ (dl : List (Dl Str)) (vs : Vr), ds = [dealsD dl, versD vs] ∧ Good dl vs
theorem versK_at {vs : Vr} {n : Nat} {kd : Key × D} (h : (versK vs)[n]? = some kd) : ∃ p, vs[n]? = some p ∧ kd = (.inr p.1, .list (p.2.map .int)) := by
  unfold versK at h
  rw [List.getElem?_map] at h
  obtain ⟨p, hp, e⟩ := Option.map_eq_some_iff.mp h
  exact ⟨p, hp, e.symm⟩
theorem cal_versions_fit (F : DefAt K mg "versions_fit" s_versions_fit ["dealings", "versions"]) (T : Bt mg) (C_is_name : Cal P w K mg base "is_name" ["some"] 1 (Ct pName rTrue)) (C_are_worths : Cal P w K mg base "are_worths" ["some"] 3 (Ct pWorths rTrue))
    (C_written_by : Cal P w K mg base "written_by" ["dealing"] 1 (Ct pWr rWr)) : Cal P w K mg base "versions_fit" ["dealings", "versions"] 4 (Ct pGood rTrue) := by
  refine cal_data F sc_versions_fit (fun ds ⟨a, b, e, _⟩ => by rw [e]; rfl) (fun f cdv A outer s H E hr => ?_)
  have hu := hu_of hr
  refine ⟨_, (pss_cons (ps_set (i := 2) sc_versions_fit.nd rfl (.inl rfl) pe_int)
      (pss_cons (ps_lock (ps_for PassesOwn.never rfl (pi_keys (pv 1)) (pg_name (i := 3) sc_versions_fit.nd rfl (.inl rfl) (.inl rfl)) (pss_cons (ps_if (PW.pt (pw_or (pt_not (pt_val (pe_callC _ C_is_name hr (pa_cons (pv 3) pa_nil)))) (pw_or1 (pt_not (pt_val (pe_callC _ C_are_worths hr (pa_cons (pe_dget hu (pv 1) (pv 3) (fun _ _ => rfl)) pa_nil))))))) (pss_one (ps_ret pe_bl)) pss_nil)
      (pss_one (ps_aug (i := 2) sc_versions_fit.nd rfl (.inl rfl) (pe_callB call_len_seq (by rfl) T.len_ PySem.boot_len (pa_cons (pe_dget hu (pv 1) (pv 3) (fun _ _ => rfl)) pa_nil)) ip_add)))))
      (pss_cons (ps_set (i := 4) sc_versions_fit.nd rfl (.inl rfl) (pe_lst pa_nil))
      (pss_cons (ps_for PassesOwn.never rfl (pi_list (pv 0)) (pg_name (i := 5) sc_versions_fit.nd rfl (.inl rfl) (.inl rfl)) (pss_cons (ps_set (i := 6) sc_versions_fit.nd rfl (.inl rfl) pe_dnewK)
      (pss_one (ps_for PassesOwn.never rfl (pi_list (pe_callC _ C_written_by hr (pa_cons (pv 5) pa_nil))) (pg_tup rfl (pgs_cons (pg_name (i := 3) sc_versions_fit.nd rfl (.inl rfl) (.inl rfl)) (pgs_cons (pg_name (i := 7) sc_versions_fit.nd rfl (.inl rfl) (.inl rfl)) pgs_nil))) (pss_cons (ps_if (PW.pt (pw_or (pt_cmpR (op_inD hr.units65) (pe_tup (pa_cons (pv 3) (pa_cons (pv 7) pa_nil))) (pv 4) (by rfl)) (pw_or (pt_cmp (pc_dnotin hu (pv 3) (pv 1)) rfl) (pw_or1 (pt_cmpR op_notIn_seq (pv 7) (pe_dget hu (pv 1) (pv 3) (fun _ _ => rfl)) (by rfl)))))) (pss_one (ps_ret pe_bl)) pss_nil)
      (pss_cons (ps_expr (pe_bm PySem.F.plainAttrs_list PySem.F.slot_list_append PySem.F.type_list_append mt_append (pv 4) (pa_cons (pe_tup (pa_cons (pv 3) (pa_cons (pv 7) pa_nil))) pa_nil)))
      (pss_cons (ps_set (i := 8) sc_versions_fit.nd rfl (.inl rfl) (pe_bm PySem.F.plainAttrs_list PySem.F.slot_list_index PySem.F.type_list_index mt_index (pe_dget hu (pv 1) (pv 3) (fun _ _ => rfl)) (pa_cons (pv 7) pa_nil)))
      (pss_cons (ps_if (pt_cmpR op_lt (pv 8) (pe_dget2 hu (pv 6) (pv 3) pe_int ⟨rfl, rfl, rfl, rfl⟩) (nomark _)) (pss_one (ps_ret pe_bl)) pss_nil)
      (pss_one (ps_dput hu (pv 6) (pv 3) (pv 8) rfl))))))))))
      (pss_one (ps_ret (pe_cmpR op_eq (pe_callB call_len_seq (by rfl) T.len_ PySem.boot_len (pa_cons (pv 4) pa_nil)) (pv 2) (nomark _)))))))), fun ds ⟨dl, vs, e, G⟩ => ?_⟩
  subst e
  -- many = 0
  refine sw_seq (sw_asg ev_int ?_)
  -- for name in versions
  refine sw_seq (sw_forK [3] (i := 1) rfl ⟨fun j d h ne => ?_, fun j d h => ?_, fun j a kds h => ?_⟩ (noDk_vers vs)
    (fun a n ρ => ρ = [.im (dealsD dl), .lk a (versK vs), .im (.int (((vs.take n).map fun p => p.2.length).sum : Nat)), .no, .no, .no, .no, .no, .no]) (fun a => rfl) (fun a n ρ e => ?_) (fun a n kd ρ hkd e => ?_) (fun a ρ e => ?_))
  · have h : ([.im (dealsD dl), .im (versD vs), .im (.int 0), .no, .no, .no, .no, .no, .no] : List Ent)[j]? = some (.im d) := h
    match j, ne, h with
    | 0, _, h => cases h; exact noDk_deals dl
    | 1, ne, _ => exact absurd rfl ne
    | 2, _, h => cases h; rfl
    | 3, _, h => cases h
    | 4, _, h => cases h
    | 5, _, h => cases h
    | 6, _, h => cases h
    | 7, _, h => cases h
    | 8, _, h => cases h
    | n + 9, _, h => cases h
  · have h : ([.im (dealsD dl), .im (versD vs), .im (.int 0), .no, .no, .no, .no, .no, .no] : List Ent)[j]? = some (.mu d) := h
    match j, h with
    | 0, h => cases h
    | 1, h => cases h
    | 2, h => cases h
    | 3, h => cases h
    | 4, h => cases h
    | 5, h => cases h
    | 6, h => cases h
    | 7, h => cases h
    | 8, h => cases h
    | n + 9, h => cases h
  · have h : ([.im (dealsD dl), .im (versD vs), .im (.int 0), .no, .no, .no, .no, .no, .no] : List Ent)[j]? = some (.lk a kds) := h
    match j, h with
    | 0, h => cases h
    | 1, h => cases h
    | 2, h => cases h
    | 3, h => cases h
    | 4, h => cases h
    | 5, h => cases h
    | 6, h => cases h
    | 7, h => cases h
    | 8, h => cases h
    | n + 9, h => cases h
  · subst e
    refine ⟨rfl, fun j b kd h => ?_⟩
    match j, h with
    | 0, h => cases h
    | 1, h => rfl
    | 2, h => cases h
    | 3, h => cases h
    | 4, h => cases h
    | 5, h => cases h
    | 6, h => cases h
    | 7, h => cases h
    | 8, h => cases h
    | n + 9, h => cases h
  · subst e
    obtain ⟨p, hp, rfl⟩ := versK_at hkd
    have hm := List.mem_of_getElem? hp
    have hg : ∀ {ρ : Ro}, ρ[1]? = some (Ent.lk a (versK vs)) → ρ[3]? = some (Ent.im (.str p.1)) → Ev (tDGet (tVar 1) (tVar 3)) ρ (.list (p.2.map .int)) := fun h1 h3 => ev_dgetL h1 (ev_var h3) (versK_some G.kn hm)
    refine ⟨_, _, tg_name, sw_seq (sw_if (et_or (et_not (et_val (ev_name (ea_cons (ev_var rfl) ea_nil) (G.nm p hm).1))) (fun _ => et_not (et_val (ev_worths (ea_cons (hg rfl rfl) ea_nil) (G.nm p hm).2)))) (fun c => nomatch c) (fun _ => sw_next ?_))⟩
    refine sw_aug (a := (((vs.take n).map fun p => p.2.length).sum : Nat)) rfl (ev_lenL (hg rfl rfl)) ?_
    show _ = _
    rw [List.take_add_one, hp, List.map_append, List.sum_append]
    show [_, _, Ent.im (.int ((((vs.take n).map fun p => p.2.length).sum : Nat) + ((p.2.map D.int).length : Nat))), _, _, _, _, _, _] = _
    rw [List.length_map]
    have : ((((vs.take n).map fun p => p.2.length).sum : Nat) : Int) + ((p.2.length : Nat) : Int) = ((((vs.take n).map fun p => p.2.length).sum + ((some p).toList.map fun p => p.2.length).sum : Nat) : Int) := by
      simp
    rw [this]
  · subst e
    rw [versK_len, List.take_length, G.sum]
    -- told = []
    refine sw_seq (sw_asgN (en_lst ea_nil (by simp)) ?_)
    -- for dealing in dealings
    refine sw_seq (sw_forX [3, 5, 6, 7, 8] dl dealD (wk_list (ev_var rfl)) (fun i ρ => ρ = [.im (dealsD dl), .im (versD vs), .im (.int ((allW dl).length : Nat)), .no, .mu (.list ((allW (dl.take i)).map pairD)), .no, .no, .no, .no]) rfl (fun i d ρ hd e => ?_) (fun ρ e => ?_))
    · subst e
      have hdm := List.mem_of_getElem? hd
      have dok := G.dl d hdm
      have hl4 : (wb d.ds).length ≤ 4 := Nat.le_trans (List.length_filterMap_le _ _) dok.2.2.2.2
      have hsub : ∀ {j : Nat}, (allW (dl.take i)).length + ((wb d.ds).take j).length ≤ 100 := fun {j} => by
        have h1 := allW_len (ds := dl.take i) fun x hx => G.dl x (List.mem_of_mem_take hx)
        rw [List.length_take] at h1
        have := G.n12
        rw [List.length_take]
        omega
      have hsplit : allW dl = allW (dl.take i) ++ (wb d.ds ++ allW (dl.drop (i + 1))) := by
        unfold allW
        have e1 : dl = dl.take i ++ (d :: dl.drop (i + 1)) := by
          obtain ⟨hlt, e⟩ := List.getElem?_eq_some_iff.mp hd
          rw [← e, List.getElem_cons_drop, List.take_append_drop]
        conv => lhs; rw [e1]
        rw [List.flatMap_append, List.flatMap_cons]
      have hnd := G.fit.nodupW
      refine ⟨_, _, tg_name, sw_seq (sw_asgN en_dictK ?_)⟩
      refine sw_forX [3, 7, 8] (wb d.ds) pairD (wk_list (ev_written (ea_cons (ev_var rfl) ea_nil) (Nat.le_trans dok.2.2.2.2 (by decide)))) (fun j ρ => ∃ kds, LastOk (vlOf vs) ((wb d.ds).take j) kds ∧
        ρ = [.im (dealsD dl), .im (versD vs), .im (.int ((allW dl).length : Nat)), .no, .mu (.list ((allW (dl.take i) ++ (wb d.ds).take j).map pairD)), .im (dealD d), .mu (.dict kds), .no, .no]) ⟨[], ⟨Nat.zero_le _, fun n dd h => nomatch h⟩, by rw [List.take_zero, List.append_nil]; rfl⟩ (fun j p ρ hp inv => ?_) (fun ρ inv => ?_)
      · obtain ⟨kds, lok, rfl⟩ := inv
        obtain ⟨n, u⟩ := p
        have hpm : (n, u) ∈ wb d.ds := List.mem_of_getElem? hp
        have hW : (n, u) ∈ allW dl := by rw [hsplit]; exact List.mem_append_right _ (List.mem_append_left _ hpm)
        have huv : u ∈ vlOf vs n := G.fit.memW.mp hW
        obtain ⟨q, hq, hqn, hqu, hqf⟩ := vlOf_some huv
        have hvl : vlOf vs n = q.2 := by unfold vlOf; rw [hqf]; rfl
        have hjl := (List.getElem?_eq_some_iff.mp hp).1
        have hcut : wb d.ds = (wb d.ds).take j ++ (n, u) :: (wb d.ds).drop (j + 1) := by
          obtain ⟨hlt, e⟩ := List.getElem?_eq_some_iff.mp hp
          rw [← e, List.getElem_cons_drop, List.take_append_drop]
        have nin : (n, u) ∉ allW (dl.take i) ++ (wb d.ds).take j := fun m => by
          rw [hsplit, hcut, ← List.append_assoc, ← List.append_assoc] at hnd
          have h1 := (List.nodup_append.mp hnd).1
          exact (List.nodup_append.mp h1).2.2 _ m _ List.mem_cons_self rfl
        have names : ∀ p ∈ allW (dl.take i) ++ (wb d.ds).take j, NameOk p.1 := fun p m => by
          have hp' : p ∈ allW dl := by
            rw [hsplit]
            rcases List.mem_append.mp m with m | m
            · exact List.mem_append_left _ m
            · exact List.mem_append_right _ (List.mem_append_left _ (List.mem_of_mem_take m))
          obtain ⟨q, hq, hqn, _, _⟩ := vlOf_some (G.fit.memW.mp (show (p.1, p.2) ∈ allW dl from hp'))
          rw [← hqn]
          exact (G.nm q hq).1
        have hname : NameOk n := by rw [← hqn]; exact (G.nm q hq).1
        refine ⟨_, _, tg_tup (tgs_cons tg_name (tgs_cons tg_name tgs_nil)), ?_⟩
        -- versions[name]
        have hvers : ∀ {ρ : Ro}, ρ[1]? = some (Ent.im (versD vs)) → ρ[3]? = some (Ent.im (.str n)) → Ev (tDGet (tVar 1) (tVar 3)) ρ (.list ((vlOf vs n).map .int)) := fun h1 h3 => ev_dgetS (ev_var h1) (ev_var h3) (by
          rw [versK_get, hqf, hvl]
          rfl)
        refine sw_seq (sw_if (et_or (et_test (ev_mut (i := 4) rfl (ev_op (ev_tup (ea_cons (ev_var rfl) (ea_cons (ev_var rfl) ea_nil)) (by simp)) (ev_var rfl) (rv_inD (d := pairD (n, u)) (ok_pair (p := (n, u)) hname) (ok_pairs names))))) (fun _ => et_or (et_val (ev_dniS (ev_var rfl) (ev_var rfl))) (fun _ => et_test (ev_op (ev_var rfl) (hvers rfl rfl) rv_niL)))) (fun c => ?_) (fun _ => sw_next ?_))
        · exfalso
          rw [any_pair, decide_eq_false nin, versK_get, hqf, decide_eq_true huv] at c
          simp at c
        -- told.append((name, worth))
        refine sw_seq (sw_append rfl (ev_tup (ea_cons (ev_var rfl) (ea_cons (ev_var rfl) ea_nil)) (by simp)) (by
          rw [List.length_map, List.length_append]
          have := hsub (j := j)
          omega) ?_)
        -- place = versions[name].index(worth)
        refine sw_seq (sw_asg (ev_index (hvers rfl rfl) (ev_var rfl) huv) ?_)
        -- if place < last.get(name, 0)
        obtain ⟨k, hk, hle⟩ : ∃ k : Int, (getD' kds (.inr n)).getD (.int 0) = .int k ∧ ¬ (((vlOf vs n).idxOf u : Nat) : Int) < k := by
          cases c : getD' kds (.inr n) with
          | none => exact ⟨0, rfl, by omega⟩
          | some dd =>
            obtain ⟨u', hu', rfl⟩ := lok.2 n dd c
            have := G.fit.rises hd hcut hu'
            exact ⟨_, rfl, by omega⟩
        refine sw_seq (sw_if (et_test (ev_op (ev_var rfl) (ev_mut (i := 6) rfl ((ev_dget2S (ev_var rfl) (ev_var rfl) ev_int).cast hk)) rv_lt)) (fun c => ?_) (fun _ => sw_next ?_))
        · exact absurd (of_decide_eq_true c) hle
        -- last[name] = place
        refine sw_dputS rfl (ev_var rfl) (ev_var rfl) (by
          have := lok.1
          rw [List.length_take] at this
          omega) ?_
        have e1 : allW (dl.take i) ++ (wb d.ds).take (j+1) = (allW (dl.take i) ++ (wb d.ds).take j) ++ [(n,u)] := by
          rw [List.take_add_one, hp, List.append_assoc]
          rfl
        refine ⟨_, ?_, by
          rw [e1]
          simp only [List.map_append]
          rfl⟩
        rw [List.take_add_one, hp]
        exact lok.put n u
      · obtain ⟨kds, lok, rfl⟩ := inv
        rw [List.take_length]
        show _ = _
        rw [List.take_add_one, hd]
        have : allW (dl.take i ++ (some d).toList) = allW (dl.take i) ++ wb d.ds := by
          unfold allW
          rw [List.flatMap_append]
          simp
        rw [this]
        rfl
    · subst e
      rw [List.take_length]
      refine sw_ret (ev_mut (i := 4) rfl (ev_op (ev_lenL (ev_var rfl)) (ev_var rfl) rv_eqI)) ?_
      show D.bool _ = D.bool true
      rw [List.length_map, decide_eq_true rfl]
theorem ev_fit {ρ : Ro} {ta : TA} {E : XK} {dl : List (Dl Str)} {vs : Vr} (h : EvA ta ρ [dealsD dl, versD vs]) (G : Good dl vs) : Ev (tCall (Ct pGood rTrue) [] E ta) ρ (.bool true) := ev_call h ⟨dl, vs, rfl, G⟩ fun d' r => r
/-! ### need_dealings -/
abbrev s_need_dealings : Stmt := topS 18
theorem sc_need_dealings : FnScope ["dealings", "versions", "dealing"] ["dealings", "versions"] (defScope s_need_dealings) := ⟨rfl, rfl, rfl, by decide +kernel, rfl, by decide +kernel, by decide +kernel⟩
def rNone (_ : List D) (r : D) : Prop := r = .none
theorem cal_need_dealings (F : DefAt K mg "need_dealings" s_need_dealings ["dealings", "versions"]) (T : Bt mg) (C_is_dealing : Cal P w K mg base "is_dealing" ["some"] 4 (Ct pDeal rTrue)) (C_versions_fit : Cal P w K mg base "versions_fit" ["dealings", "versions"] 4 (Ct pGood rTrue)) :
    Cal P w K mg base "need_dealings" ["dealings", "versions"] 5 (Ct pGood rNone) := by
  refine cal_data F sc_need_dealings (fun ds ⟨a, b, e, _⟩ => by rw [e]; rfl) (fun f cdv A outer s H E hr => ?_)
  refine ⟨_, (pss_cons (ps_if (pt_not (pt_chain op_le op_le pe_int (pe_callB call_len_seq (by rfl) T.len_ PySem.boot_len (pa_cons (pv 0) pa_nil)) (pe_gc T.cMOST_DEALINGS))) (pss_one ps_never) pss_nil)
      (pss_cons (ps_for PassesOwn.never rfl (pi_list (pv 0)) (pg_name (i := 2) sc_need_dealings.nd rfl (.inl rfl) (.inl rfl)) (pss_one (ps_if (pt_not (pt_val (pe_callC _ C_is_dealing hr (pa_cons (pv 2) pa_nil)))) (pss_one ps_never) pss_nil)))
      (pss_one (ps_if (pt_not (pt_val (pe_callC _ C_versions_fit hr (pa_cons (pv 0) (pa_cons (pv 1) pa_nil))))) (pss_one ps_never) pss_nil)))), fun ds ⟨dl, vs, e, G⟩ => ?_⟩
  subst e
  have h1 := G.n1
  have h12 := G.n12
  refine sw_seq (sw_if (et_not (et_test (ev_chain ev_int (ev_lenL (ev_var rfl)) rv_le (fun _ => ev_int) (fun _ => rv_le)))) (fun c => ?_) (fun _ => sw_next ?_))
  · rw [List.length_map, decide_eq_true (show (1 : Int) ≤ (dl.length : Int) by omega), decide_eq_true (show (dl.length : Int) ≤ 12 by omega)] at c
    exact absurd c (by decide)
  refine sw_seq (sw_forX [2] dl dealD (wk_list (ev_var rfl)) (fun i ρ => ρ = [.im (dealsD dl), .im (versD vs), .no]) rfl (fun i d ρ hd e => ?_) (fun ρ e => ?_))
  · subst e
    exact ⟨_, _, tg_name, sw_if (et_not (et_val (ev_deal (ea_cons (ev_var rfl) ea_nil) (G.dl d (List.mem_of_getElem? hd))))) (fun c => nomatch c) (fun _ => sw_next rfl)⟩
  · subst e
    exact sw_if (et_not (et_val (ev_fit (ea_cons (ev_var rfl) (ea_cons (ev_var rfl) ea_nil)) G))) (fun c => nomatch c) (fun _ => sw_next rfl)
theorem ev_need {ρ : Ro} {ta : TA} {E : XK} {dl : List (Dl Str)} {vs : Vr} (h : EvA ta ρ [dealsD dl, versD vs]) (G : Good dl vs) : Ev (tCall (Ct pGood rNone) [] E ta) ρ .none := ev_call h ⟨dl, vs, rfl, G⟩ fun d' r => r
end
end Tk

set_option Elab.async false
set_option linter.all false
set_option maxRecDepth 100000
set_option maxHeartbeats 4000000
/-! D4: writers, reads, reasons. -/
namespace Tk
open PySem PySem.Spec PyProof.Rows L2 Dm
theorem dealsD_inj {x y : List (Dl Str)} (h : dealsD x = dealsD y) : x = y := by
  unfold dealsD at h
  injection h with h
  exact map_inj' (fun _ _ => dealD_inj) h
theorem int_inj' {x y : List Int} (h : x.map D.int = y.map D.int) : x = y := map_inj' (fun a b e => by injection e) h
theorem versD_inj {x y : Vr} (h : versD x = versD y) : x = y := by
  unfold versD versK at h
  injection h with h
  refine map_inj' (fun a b e => ?_) h
  injection e with e1 e2
  injection e2 with e2
  exact Prod.ext (Sum.inr.inj e1) (int_inj' e2)
/-! ### the others' slots, told in a row -/
def OthE : Ent → Prop
  | .no => True
  | .im d => noDk d = true
  | .mu d => noDkM d = true
  | .lk _ _ => False
  | .ptr _ => True
def OthR (i : Nat) : Nat → Ro → Prop
  | _, [] => True
  | p, e :: r => (p = i ∨ OthE e) ∧ OthR i (p + 1) r
theorem OthR.at {i : Nat} : ∀ {r : Ro} {p j : Nat} {e : Ent}, OthR i p r → r[j]? = some e → p + j ≠ i → OthE e
  | [], _, _, _, _, h, _ => by simp at h
  | x :: r, p, 0, e, h, hj, ne => by
    rw [List.getElem?_cons_zero] at hj
    cases hj
    rcases h.1 with c | c
    · exact absurd c ne
    · exact c
  | x :: r, p, j + 1, e, h, hj, ne => by
    rw [List.getElem?_cons_succ] at hj
    exact h.2.at hj (by omega)
theorem others_of {ρ : Ro} {i : Nat} {d : D} (hi : ρ[i]? = some (.im d)) (h : OthR i 0 ρ) : Others ρ i :=
  ⟨fun j d h1 ne => h.at h1 (by omega), fun j d h1 => by
    by_cases c : j = i
    · subst c
      rw [hi] at h1
      cases h1
    · exact h.at h1 (by omega), fun j a kds h1 => by
    by_cases c : j = i
    · subst c
      rw [hi] at h1
      cases h1
    · exact h.at h1 (by omega)⟩
theorem only_lk {ρ : Ro} {i : Nat} (h : OthR i 0 ρ) {j : Nat} {b : Addr} {kd : List (Key × D)} (hj : ρ[j]? = some (Ent.lk b kd)) : i = j := by
  by_cases c : j = i
  · exact c.symm
  · exact (h.at hj (by omega)).elim
/-! ### the writers -/
/-- the numbers of those who write, by what they write -/
def WkOk (pre : List ((Str × Int) × Nat)) (kds : List (List Key × D)) : Prop :=
  kds.length ≤ pre.length ∧ noDkT kds = true ∧ (∀ n v d, getD' kds (key2 n v) = some d → ∃ i : Nat, ((n, v), i) ∈ pre ∧ d = .int (i : Int)) ∧ ∀ n v i, ((n, v), i) ∈ pre → (getD' kds (key2 n v)).isSome = true
theorem noDkT_app : ∀ (a b : List (List Key × D)), noDkT (a ++ b) = (noDkT a && noDkT b)
  | [], b => by simp [noDkT]
  | (k, d) :: a, b => by
    show (noDk d && noDkT (a ++ b)) = ((noDk d && noDkT a) && noDkT b)
    rw [noDkT_app a b, Bool.and_assoc]
theorem noDkT_put {kds : List (List Key × D)} {k : List Key} {d : D} (h : noDkT kds = true) (hd : noDk d = true) : noDkT (putD kds k d) = true := by
  unfold putD
  by_cases c : (kds.any fun kv => decide (kv.1 = k)) = true
  · rw [if_pos c]
    clear c
    induction kds with
    | nil => rfl
    | cons p r ih =>
      obtain ⟨q, e⟩ := p
      have h : (noDk e && noDkT r) = true := h
      rw [Bool.and_eq_true] at h
      rw [List.map_cons]
      by_cases c : q = k
      · rw [if_pos c]
        show (noDk d && noDkT _) = true
        rw [hd, ih h.2]
        rfl
      · rw [if_neg c]
        show (noDk e && noDkT _) = true
        rw [h.1, ih h.2]
        rfl
  · rw [if_neg c, noDkT_app, h]
    show (true && (noDk d && true)) = true
    rw [hd]
    rfl
theorem key2_inj {n n' : Str} {v v' : Int} (h : key2 n v = key2 n' v') : n = n' ∧ v = v' := by
  unfold key2 at h
  injection h with h1 h2
  injection h2 with h2 h3
  exact ⟨Sum.inr.inj h1, Sum.inl.inj h2⟩
theorem WkOk.nil : WkOk [] [] := ⟨Nat.le_refl _, rfl, (fun n v d h => nomatch h), (fun n v i h => nomatch h)⟩
theorem WkOk.put {pre : List ((Str × Int) × Nat)} {kds : List (List Key × D)} (h : WkOk pre kds) (n : Str) (v : Int) (i : Nat) : WkOk (pre ++ [((n, v), i)]) (putD kds (key2 n v) (.int (i : Int))) := by
  refine ⟨?_, noDkT_put h.2.1 rfl, fun m u d e => ?_, fun m u k e => ?_⟩
  · have := putD_len kds (key2 n v) (.int (i : Int))
    have := h.1
    rw [List.length_append, List.length_singleton]
    omega
  · rw [getD_put] at e
    by_cases c : key2 m u = key2 n v
    · rw [if_pos c] at e
      obtain ⟨rfl, rfl⟩ := key2_inj c
      exact ⟨i, by simp, (Option.some.inj e).symm⟩
    · rw [if_neg c] at e
      obtain ⟨k, a, b⟩ := h.2.2.1 m u d e
      exact ⟨k, List.mem_append_left _ a, b⟩
  · rw [getD_put]
    by_cases c : key2 m u = key2 n v
    · rw [if_pos c]
      rfl
    · rw [if_neg c]
      rcases List.mem_append.mp e with e | e
      · exact h.2.2.2 m u k e
      · have e := List.mem_singleton.mp e
        cases e
        exact absurd rfl c
/-- writes with the writers' numbers -/
def numW (dl : List (Dl Str)) (n : Nat) : List ((Str × Int) × Nat) := (List.range n).flatMap fun i => (wb (dsOf dl i)).map fun p => (p, i)
theorem mem_numW {dl : List (Dl Str)} {n : Str} {v : Int} {i : Nat} : ((n, v), i) ∈ numW dl dl.length ↔ Wr dl n v i := by
  unfold numW Wr
  rw [List.mem_flatMap]
  constructor
  · rintro ⟨k, hk, h⟩
    obtain ⟨p, hp, e⟩ := List.mem_map.mp h
    cases e
    exact ⟨List.mem_range.mp hk, mem_wb.mp hp⟩
  · rintro ⟨h1, h2⟩
    exact ⟨i, List.mem_range.mpr h1, List.mem_map.mpr ⟨(n, v), mem_wb.mpr h2, rfl⟩⟩
theorem numW_len {dl : List (Dl Str)} (h : ∀ d ∈ dl, DealOk d) : ∀ n : Nat, (numW dl n).length ≤ 4 * n
  | 0 => Nat.le_refl _
  | n + 1 => by
    have ih := numW_len h n
    unfold numW at ih ⊢
    rw [fr_succ, List.length_append, List.length_map]
    have : (wb (dsOf dl n)).length ≤ 4 := by
      cases c : dl[n]? with
      | none =>
        unfold dsOf
        rw [c]
        exact Nat.zero_le _
      | some d =>
        rw [dsOf_get c]
        exact Nat.le_trans (List.length_filterMap_le _ _) (h d (List.mem_of_getElem? c)).2.2.2.2
    omega
/-- what is asked of the writers -/
def WrOk (dl : List (Dl Str)) (kds : List (List Key × D)) : Prop := noDkT kds = true ∧ (∀ n v i, Wr dl n v i → getD' kds (key2 n v) = some (.int (i : Int))) ∧ ∀ n v d, getD' kds (key2 n v) = some d → ∃ i : Nat, Wr dl n v i ∧ d = .int (i : Int)
theorem WkOk.wr {dl : List (Dl Str)} {vl : Str → List Int} (F : Fit dl vl) {kds : List (List Key × D)} (h : WkOk (numW dl dl.length) kds) : WrOk dl kds := by
  refine ⟨h.2.1, fun n v i hi => ?_, fun n v d e => ?_⟩
  · have := h.2.2.2 n v i (mem_numW.mpr hi)
    cases c : getD' kds (key2 n v) with
    | none =>
      rw [c] at this
      cases this
    | some d =>
      obtain ⟨k, hk, rfl⟩ := h.2.2.1 n v d c
      rw [F.one (mem_numW.mp hk) hi]
  · obtain ⟨i, a, b⟩ := h.2.2.1 n v d e
    exact ⟨i, mem_numW.mp a, b⟩
theorem WrOk.of {dl : List (Dl Str)} {vl : Str → List Int} (F : Fit dl vl) {kds : List (List Key × D)} (h : WrOk dl kds) {n : Str} {v : Int} (hv : v ∈ vl n) : getD' kds (key2 n v) = some (.int ((wOf dl n v : Nat) : Int)) := h.2.1 n v _ (wOf_wr F hv)
theorem WrOk.has {dl : List (Dl Str)} {vl : Str → List Int} (F : Fit dl vl) {kds : List (List Key × D)} (h : WrOk dl kds) (n : Str) (v : Int) : (getD' kds (key2 n v)).isSome = decide (v ∈ vl n) := by
  by_cases c : v ∈ vl n
  · rw [h.of F c, decide_eq_true c]
    rfl
  · rw [decide_eq_false c]
    cases e : getD' kds (key2 n v) with
    | none => rfl
    | some d =>
      obtain ⟨i, hi, _⟩ := h.2.2 n v d e
      exact absurd (hi.mem F) c
section
variable {P : Program} {w : World} {K : PySem.W.Frag} {mg : Str → Option Value} {base : Heap}
abbrev s_writers_of : Stmt := topS 19
theorem sc_writers_of : FnScope ["dealings", "found", "number", "dealing", "both"] ["dealings"] (defScope s_writers_of) := ⟨rfl, rfl, rfl, by decide +kernel, rfl, by decide +kernel, by decide +kernel⟩
def pDls (ds : List D) : Prop := ∃ (dl : List (Dl Str)) (vs : Vr), ds = [dealsD dl] ∧ Good dl vs
def rWrs (ds : List D) (r : D) : Prop := ∀ dl, ds = [dealsD dl] → ∃ kds, r = .dictT kds ∧ WrOk dl kds
theorem cal_writers_of (F : DefAt K mg "writers_of" s_writers_of ["dealings"]) (T : Bt mg) (C_written_by : Cal P w K mg base "written_by" ["dealing"] 1 (Ct pWr rWr)) : Cal P w K mg base "writers_of" ["dealings"] 2 (Ct pDls rWrs) := by
  refine cal_data F sc_writers_of (fun ds ⟨a, b, e, _⟩ => by rw [e]; rfl) (fun f cdv A outer s H E hr => ?_)
  have hu := hu_of hr
  refine ⟨_, (pss_cons (ps_set (i := 1) sc_writers_of.nd rfl (.inl rfl) pe_dnewT)
      (pss_cons (ps_for PassesOwn.never rfl (pi_enum (by rfl) T.enumerate_ (pa_cons (pv 0) pa_nil)) (pg_tup rfl (pgs_cons (pg_name (i := 2) sc_writers_of.nd rfl (.inl rfl) (.inl rfl)) (pgs_cons (pg_name (i := 3) sc_writers_of.nd rfl (.inl rfl) (.inl rfl)) pgs_nil))) (pss_one (ps_for PassesOwn.never rfl (pi_list (pe_callC _ C_written_by hr (pa_cons (pv 3) pa_nil))) (pg_name (i := 4) sc_writers_of.nd rfl (.inl rfl) (.inl rfl)) (pss_one (ps_dput hu (pv 1) (pv 4) (pv 2) rfl)))))
      (pss_one (ps_ret (pv 1))))), fun ds ⟨dl, vs, e, G⟩ => ?_⟩
  subst e
  refine sw_seq (sw_asgN en_dictT ?_)
  refine sw_seq (sw_forE [2, 3, 4] dl dealD (wk_enum (ea_cons (ev_var rfl) ea_nil)) (fun i ρ => ∃ kds, WkOk (numW dl i) kds ∧ ρ = [.im (dealsD dl), .mu (.dictT kds), .no, .no, .no]) ⟨[], WkOk.nil, rfl⟩ (fun i d ρ hd inv => ?_) (fun ρ inv => ?_))
  · obtain ⟨kds, wk, rfl⟩ := inv
    have dok := G.dl d (List.mem_of_getElem? hd)
    refine ⟨_, _, tg_tup (tgs_cons tg_name (tgs_cons tg_name tgs_nil)), ?_⟩
    refine sw_forX [4] (wb d.ds) pairD (wk_list (ev_written (ea_cons (ev_var rfl) ea_nil) (Nat.le_trans dok.2.2.2.2 (by decide)))) (fun j ρ => ∃ kds, WkOk (numW dl i ++ ((wb d.ds).take j).map fun p => (p, i)) kds ∧ ρ = [.im (dealsD dl), .mu (.dictT kds), .im (.int (i : Int)), .im (dealD d), .no]) ⟨kds, by rw [List.take_zero, List.map_nil, List.append_nil]; exact wk, rfl⟩ (fun j p ρ hp inv => ?_) (fun ρ inv => ?_)
    · obtain ⟨kds, wk, rfl⟩ := inv
      refine ⟨_, _, tg_name, sw_dputT rfl (ev_var rfl) (ev_var rfl) ?_ ⟨_, ?_, rfl⟩⟩
      · have h1 := wk.1
        have h2 := numW_len G.dl i
        have h3 := (List.getElem?_eq_some_iff.mp hd).1
        have h4 := G.n12
        have h5 : (wb d.ds).length ≤ 4 := Nat.le_trans (List.length_filterMap_le _ _) dok.2.2.2.2
        rw [List.length_append, List.length_map, List.length_take] at h1
        omega
      · rw [List.take_add_one, hp, List.map_append, ← List.append_assoc]
        exact wk.put p.1 p.2 i
    · obtain ⟨kds, wk, rfl⟩ := inv
      refine ⟨kds, ?_, rfl⟩
      rw [List.take_length] at wk
      have e : numW dl (i + 1) = numW dl i ++ (wb d.ds).map fun p => (p, i) := by
        unfold numW
        rw [fr_succ, dsOf_get hd]
      rw [e]
      exact wk
  · obtain ⟨kds, wk, rfl⟩ := inv
    refine sw_retM rfl fun dl' e' => ?_
    have e2 := dealsD_inj (List.cons.inj e').1
    subst e2
    exact ⟨kds, rfl, wk.wr G.fit⟩
theorem evp_writers {ρ : Ro} {ta : TA} {E : XK} {dl : List (Dl Str)} {vs : Vr} (h : EvA ta ρ [dealsD dl]) (G : Good dl vs) : EvP (tCall (Ct pDls rWrs) [] E ta) ρ (fun r => ∃ kds, r = .dictT kds ∧ WrOk dl kds) := (evp_call h ⟨dl, vs, rfl, G⟩).to fun d' r => r dl rfl
/-! ### reads_ahead -/
abbrev s_reads_ahead : Stmt := topS 20
theorem sc_reads_ahead : FnScope ["dealing", "own", "found", "verb", "name", "worth"] ["dealing"] (defScope s_reads_ahead) := ⟨rfl, rfl, rfl, by decide +kernel, rfl, by decide +kernel, by decide +kernel⟩
def rRa (ds : List D) (r : D) : Prop := ∀ d : Dl Str, ds = [dealD d] → r = .list ((ra own0 d.ds).map pairD)
theorem cal_reads_ahead (F : DefAt K mg "reads_ahead" s_reads_ahead ["dealing"]) (T : Bt mg) : Cal P w K mg base "reads_ahead" ["dealing"] 1 (Ct pWr rRa) := by
  refine cal_data F sc_reads_ahead (fun ds ⟨a, e, _⟩ => by rw [e]; rfl) (fun f cdv A outer s H E hr => ?_)
  refine ⟨_, (pss_cons (ps_set (i := 1) sc_reads_ahead.nd rfl (.inl rfl) (pe_lst pa_nil))
      (pss_cons (ps_set (i := 2) sc_reads_ahead.nd rfl (.inl rfl) (pe_lst pa_nil))
      (pss_cons (ps_for PassesOwn.never rfl (pi_tup (pe_ix ix_tup (pv 0) pe_int (fun _ _ => rfl))) (pg_tup rfl (pgs_cons (pg_name (i := 3) sc_reads_ahead.nd rfl (.inl rfl) (.inl rfl)) (pgs_cons (pg_name (i := 4) sc_reads_ahead.nd rfl (.inl rfl) (.inl rfl)) (pgs_cons (pg_name (i := 5) sc_reads_ahead.nd rfl (.inl rfl) (.inl rfl)) pgs_nil)))) (pss_one (ps_if (pt_cmpR op_eq (pv 3) pe_str (nomark _)) (pss_one (ps_expr (pe_bm PySem.F.plainAttrs_list PySem.F.slot_list_append PySem.F.type_list_append mt_append (pv 1) (pa_cons (pv 4) pa_nil)))) (pss_one (ps_if (pt_cmpR op_notIn_seq (pv 4) (pv 1) (by rfl)) (pss_one (ps_expr (pe_bm PySem.F.plainAttrs_list PySem.F.slot_list_append PySem.F.type_list_append mt_append (pv 2) (pa_cons (pe_tup (pa_cons (pv 4) (pa_cons (pv 5) pa_nil))) pa_nil)))) pss_nil)))))
      (pss_one (ps_ret (pv 2)))))), fun ds ⟨d, e, hl⟩ => ?_⟩
  subst e
  refine sw_seq (sw_asgN (en_lst ea_nil (by simp)) (sw_seq (sw_asgN (en_lst ea_nil (by simp)) ?_)))
  refine sw_seq (sw_forX [3, 4, 5] d.ds deedD (wk_tup (ev_op (d := .tuple [.int d.b, .int d.e, .tuple (d.ds.map deedD)]) (ev_var rfl) ev_int (rv_ixT rfl))) (fun i ρ => ∃ (own : Str → Option Int) (ns : List Str) (fd : List (Str × Int)), (∀ m, m ∈ ns ↔ own m ≠ none) ∧ ns.length ≤ i ∧ fd.length ≤ i ∧ fd ++ ra own (d.ds.drop i) = ra own0 d.ds ∧
    ρ = [.im (dealD d), .mu (.list (ns.map .str)), .mu (.list (fd.map pairD)), .no, .no, .no]) ⟨own0, [], [], fun m => ⟨(fun h => nomatch h), (fun h => absurd rfl h)⟩, Nat.zero_le _, Nat.zero_le _, rfl, rfl⟩ (fun i x ρ hx inv => ?_) (fun ρ inv => ?_))
  · obtain ⟨own, ns, fd, h1, h2, h3, h4, rfl⟩ := inv
    have hi := (List.getElem?_eq_some_iff.mp hx).1
    have hdr : d.ds.drop i = x :: d.ds.drop (i + 1) := by
      rw [← (List.getElem?_eq_some_iff.mp hx).2, List.getElem_cons_drop]
    rw [hdr] at h4
    refine ⟨_, _, tg_tup (tgs_cons tg_name (tgs_cons tg_name (tgs_cons tg_name tgs_nil))), ?_⟩
    refine sw_if ((et_test (ev_op (ev_var rfl) ev_str rv_eqS)).cast (verb_write x.w)) (fun c => ?_) (fun c => ?_)
    · rw [ra_w c] at h4
      refine sw_append rfl (ev_var rfl) (by rw [List.length_map]; omega) ⟨putO own x.n x.v, ns ++ [x.n], fd, fun m => ?_, by rw [List.length_append]; exact Nat.succ_le_succ h2, by omega, h4, by rw [List.map_append]; rfl⟩
      unfold putO
      rw [List.mem_append, List.mem_singleton]
      by_cases q : m = x.n
      · rw [if_pos q]
        exact ⟨(fun _ z => nomatch z), (fun _ => .inr q)⟩
      · rw [if_neg q]
        exact ⟨fun h => (h1 m).mp (h.resolve_right q), fun h => .inl ((h1 m).mpr h)⟩
    · have c : ¬ x.w = true := by rw [c]; decide
      refine sw_if (et_test (ev_mut (i := 1) rfl (ev_op (ev_var rfl) (ev_var rfl) rv_niLS))) (fun c2 => ?_) (fun c2 => ?_)
      · have nin : x.n ∉ ns := by simpa using c2
        have e0 : own x.n = none := by
          cases q : own x.n with
          | none => rfl
          | some u => exact absurd ((h1 x.n).mpr (by rw [q]; exact fun z => nomatch z)) nin
        rw [ra_n c e0] at h4
        refine sw_append rfl (ev_tup (ea_cons (ev_var rfl) (ea_cons (ev_var rfl) ea_nil)) (by simp)) (by rw [List.length_map]; omega) ⟨own, ns, fd ++ [(x.n, x.v)], h1, by omega, by rw [List.length_append]; exact Nat.succ_le_succ h3, by rw [List.append_assoc]; exact h4, by rw [List.map_append]; rfl⟩
      · have nin : x.n ∈ ns := by simpa using c2
        cases q : own x.n with
        | none => exact absurd q ((h1 x.n).mp nin)
        | some u =>
          rw [ra_s c q] at h4
          exact sw_next ⟨own, ns, fd, h1, by omega, by omega, h4, rfl⟩
  · obtain ⟨own, ns, fd, h1, h2, h3, h4, rfl⟩ := inv
    rw [List.drop_length] at h4
    have h4 : fd ++ [] = _ := h4
    rw [List.append_nil] at h4
    refine sw_retM rfl fun d' e' => ?_
    have e2 := dealD_inj (List.cons.inj e').1
    subst e2
    rw [h4]
theorem ev_reads {ρ : Ro} {ta : TA} {E : XK} {d : Dl Str} (h : EvA ta ρ [dealD d]) (hl : d.ds.length ≤ 100) : Ev (tCall (Ct pWr rRa) [] E ta) ρ (.list ((ra own0 d.ds).map pairD)) := ev_call h ⟨d, rfl, hl⟩ fun d' r => r d rfl
end
end Tk

set_option Elab.async false
set_option linter.all false
set_option maxRecDepth 100000
set_option maxHeartbeats 4000000
/-! D5: the reasons. -/
namespace Tk
open PySem PySem.Spec PyProof.Rows L2 Dm
def kdS : Kd → Str
  | .after => "after"
  | .seen => "seen"
  | .missed => "missed"
  | .time => "time"
def optD : Option Str → D
  | none => .none
  | some s => .str s
def rsD (r : Rn Str) : D := .tuple [.int (r.i : Int), .int (r.j : Int), .str (kdS r.k), optD r.n]
theorem kdS_inj : ∀ {a b : Kd}, kdS a = kdS b → a = b := by
  intro a b h
  cases a <;> cases b <;> first | rfl | exact absurd h (by decide +kernel)
theorem optD_inj : ∀ {a b : Option Str}, optD a = optD b → a = b
  | none, none, _ => rfl
  | some _, none, h => nomatch h
  | none, some _, h => nomatch h
  | some a, some b, h => by
    have h : D.str a = D.str b := h
    injection h with h
    rw [h]
theorem rsD_inj {x y : Rn Str} (h : rsD x = rsD y) : x = y := by
  unfold rsD at h
  injection h with h
  injection h with h1 h
  injection h with h2 h
  injection h with h3 h
  injection h with h4 h
  injection h1 with h1
  injection h2 with h2
  injection h3 with h3
  cases x
  cases y
  simp only at h1 h2 h3 h4
  rw [Int.ofNat_inj.mp h1, Int.ofNat_inj.mp h2, kdS_inj h3, optD_inj h4]
section
variable {P : Program} {w : World} {K : PySem.W.Frag} {mg : Str → Option Value} {base : Heap}
theorem zip_next {l : List Int} {i : Nat} {p : Int × Int} (h : (l.zip (l.drop 1))[i]? = some p) : p.1 ∈ l ∧ p.2 ∈ l := by
  have m := List.mem_of_getElem? h
  obtain ⟨a, b⟩ := p
  have := List.of_mem_zip m
  exact ⟨this.1, List.mem_of_mem_drop this.2⟩
theorem zipD_map (l m : List Int) : zipD (l.map .int) (m.map .int) = (l.zip m).map fun p => .tuple [.int p.1, .int p.2] := by
  unfold zipD
  rw [List.zip_map, List.map_map]
  rfl
theorem afterN_len (dl : List (Dl Str)) (n : Str) (l : List Int) : (afterN dl n l).length ≤ l.length := by
  unfold afterN
  rw [List.length_map, List.length_zip]
  exact Nat.min_le_left _ _
theorem afterL_len (dl : List (Dl Str)) : ∀ (vs : Vr), (afterL dl vs).length ≤ (vs.map fun p => p.2.length).sum
  | [] => Nat.le_refl _
  | p :: r => by
    have ih := afterL_len dl r
    unfold afterL at ih ⊢
    rw [List.flatMap_cons, List.length_append, List.map_cons, List.sum_cons]
    exact Nat.add_le_add (afterN_len dl p.1 p.2) ih
theorem sum_take (vs : Vr) (i : Nat) : ((vs.take i).map fun p => p.2.length).sum ≤ (vs.map fun p => p.2.length).sum := by
  conv => rhs; rw [← List.take_append_drop i vs]
  rw [List.map_append, List.sum_append]
  exact Nat.le_add_right _ _
abbrev s_reasons_after : Stmt := topS 21
theorem sc_reasons_after : FnScope ["versions", "writers", "found", "name", "elder", "newer"] ["versions", "writers"] (defScope s_reasons_after) := ⟨rfl, rfl, rfl, by decide +kernel, rfl, by decide +kernel, by decide +kernel⟩
def pAf (ds : List D) : Prop := ∃ (dl : List (Dl Str)) (vs : Vr) (kds : List (List Key × D)), ds = [versD vs, .dictT kds] ∧ Good dl vs ∧ WrOk dl kds
def rAf (ds : List D) (r : D) : Prop := ∃ (dl : List (Dl Str)) (vs : Vr) (kds : List (List Key × D)), ds = [versD vs, .dictT kds] ∧ Good dl vs ∧ WrOk dl kds ∧ r = .list ((afterL dl vs).map rsD)
theorem cal_reasons_after (F : DefAt K mg "reasons_after" s_reasons_after ["versions", "writers"]) (T : Bt mg) : Cal P w K mg base "reasons_after" ["versions", "writers"] 1 (CtN pAf rAf) := by
  refine cal_dataN F sc_reasons_after (fun ds ⟨a, b, c, e, _⟩ => by rw [e]; rfl) (fun f cdv A outer s H E hr => ?_)
  have hu := hu_of hr
  refine ⟨_, (pss_cons (ps_set (i := 2) sc_reasons_after.nd rfl (.inl rfl) (pe_lst pa_nil))
      (pss_cons (ps_lock (ps_for PassesOwn.never rfl (pi_keys (pv 0)) (pg_name (i := 3) sc_reasons_after.nd rfl (.inl rfl) (.inl rfl)) (pss_one (ps_for PassesOwn.never rfl (pi_zip (by rfl) T.zip_ (pa_cons (pe_dget hu (pv 0) (pv 3) (fun _ _ => rfl)) (pa_cons (pe_slice sl_list (pe_dget hu (pv 0) (pv 3) (fun _ _ => rfl)) (po_some pe_int) po_none) pa_nil))) (pg_tup rfl (pgs_cons (pg_name (i := 4) sc_reasons_after.nd rfl (.inl rfl) (.inl rfl)) (pgs_cons (pg_name (i := 5) sc_reasons_after.nd rfl (.inl rfl) (.inl rfl)) pgs_nil))) (pss_one (ps_expr (pe_bm PySem.F.plainAttrs_list PySem.F.slot_list_append PySem.F.type_list_append mt_append (pv 2) (pa_cons (pe_tup (pa_cons (pe_dget hu (pv 1) (pe_tup (pa_cons (pv 3) (pa_cons (pv 4) pa_nil))) (fun _ _ => rfl)) (pa_cons (pe_dget hu (pv 1) (pe_tup (pa_cons (pv 3) (pa_cons (pv 5) pa_nil))) (fun _ _ => rfl)) (pa_cons pe_str (pa_cons (pv 3) pa_nil))))) pa_nil))))))))
      (pss_one (ps_ret (pv 2))))), fun ds ⟨dl, vs, kw, e, G, W⟩ => ?_⟩
  subst e
  refine sw_seq (sw_asgN (en_lst ea_nil (by simp)) ?_)
  refine sw_seq (sw_forK [3, 4, 5] (i := 0) rfl (others_of rfl ⟨.inl rfl, .inr W.1, .inr rfl, .inr True.intro, .inr True.intro, .inr True.intro, True.intro⟩) (noDk_vers vs)
    (fun a n ρ => ρ = [.lk a (versK vs), .im (.dictT kw), .mu (.list ((afterL dl (vs.take n)).map rsD)), .no, .no, .no]) (fun a => rfl) (fun a n ρ e => ?_) (fun a n kd ρ hkd e => ?_) (fun a ρ e => ?_))
  · subst e
    refine ⟨rfl, fun j b kd h => only_lk (ρ := [.lk a (versK vs), .im (.dictT kw), .mu (.list ((afterL dl (vs.take n)).map rsD)), .no, .no, .no]) ⟨.inl rfl, .inr W.1, .inr ?_, .inr True.intro, .inr True.intro, .inr True.intro, True.intro⟩ h⟩
    exact nodks_map rsD _ fun r _ => by cases r with | mk i j k n => cases n <;> rfl
  · subst e
    obtain ⟨p, hp, rfl⟩ := versK_at hkd
    have hm := List.mem_of_getElem? hp
    have hvl : vlOf vs p.1 = p.2 := (vlOf_mem G.kn hm).2
    have hg : ∀ {ρ : Ro}, ρ[0]? = some (Ent.lk a (versK vs)) → ρ[3]? = some (Ent.im (.str p.1)) → Ev (tDGet (tVar 0) (tVar 3)) ρ (.list (p.2.map .int)) := fun h1 h3 => ev_dgetL h1 (ev_var h3) (versK_some G.kn hm)
    have hlen : ∀ j, (afterL dl (vs.take n)).length + ((p.2.zip (p.2.drop 1)).take j).length ≤ 200 := fun j => by
      have h1 := afterL_len dl (vs.take n)
      have h2 := sum_take vs n
      have h3 := G.sum
      have h4 := G.few
      have h5 := (G.nm p hm).2.2.1
      rw [List.length_take, List.length_zip]
      omega
    refine ⟨_, _, tg_name, ?_⟩
    refine sw_forX [4, 5] (p.2.zip (p.2.drop 1)) (fun q => .tuple [.int q.1, .int q.2]) ?_ (fun j ρ => ρ = [.lk a (versK vs), .im (.dictT kw), .mu (.list ((afterL dl (vs.take n) ++ ((p.2.zip (p.2.drop 1)).take j).map fun q => (⟨wOf dl p.1 q.1, wOf dl p.1 q.2, Kd.after, some p.1⟩ : Rn Str)).map rsD)), .im (.str p.1), .no, .no]) (by rw [List.take_zero, List.map_nil, List.append_nil]; rfl) (fun j q ρ hq e => ?_) (fun ρ e => ?_)
    · rw [← zipD_map]
      refine wk_zip (ea_cons (hg rfl rfl) (ea_cons ((EvN.ev (en_slL (hg rfl rfl) (eo_some (i := ((1 : Nat) : Int)) ev_int) eo_none)).cast ?_) ea_nil))
      rw [cut_drop, map_drop']
    · subst e
      have hz := zip_next hq
      refine ⟨_, _, tg_tup (tgs_cons tg_name (tgs_cons tg_name tgs_nil)), ?_⟩
      refine sw_append rfl (ev_tup (ea_cons (ev_dgetT (ev_var rfl) (ev_tup (ea_cons (ev_var rfl) (ea_cons (ev_var rfl) ea_nil)) (by simp)) (W.of G.fit (by rw [hvl]; exact hz.1))) (ea_cons (ev_dgetT (ev_var rfl) (ev_tup (ea_cons (ev_var rfl) (ea_cons (ev_var rfl) ea_nil)) (by simp)) (W.of G.fit (by rw [hvl]; exact hz.2))) (ea_cons ev_str (ea_cons (ev_var rfl) ea_nil)))) (by simp)) (by
        have := hlen j
        rw [List.length_map, List.length_append, List.length_map]
        omega) ?_
      show _ = _
      have e1 : (p.2.zip (p.2.drop 1)).take (j + 1) = (p.2.zip (p.2.drop 1)).take j ++ [q] := by
        rw [List.take_add_one, hq]
        rfl
      rw [e1]
      simp only [List.map_append, List.append_assoc]
      rfl
    · subst e
      show _ = _
      rw [List.take_length]
      have e1 : afterL dl (vs.take (n + 1)) = afterL dl (vs.take n) ++ afterN dl p.1 p.2 := by
        unfold afterL
        rw [fl_succ hp]
      rw [e1]
      rfl
  · subst e
    rw [versK_len, List.take_length]
    exact sw_retN rfl ⟨dl, vs, kw, rfl, G, W, rfl⟩
/-! ### reasons_of_time -/
abbrev s_reasons_of_time : Stmt := topS 23
theorem sc_reasons_of_time : FnScope ["dealings", "found", "number", "dealing", "other", "another"] ["dealings"] (defScope s_reasons_of_time) := ⟨rfl, rfl, rfl, by decide +kernel, rfl, by decide +kernel, by decide +kernel⟩
def rTm (ds : List D) (r : D) : Prop := ∀ dl : List (Dl Str), ds = [dealsD dl] → r = .list ((timeL dl dl.length).map rsD)
theorem timeN_len (dl : List (Dl Str)) (i n : Nat) : (timeN dl i n).length ≤ n := by
  unfold timeN
  refine Nat.le_trans (List.length_filterMap_le _ _) ?_
  rw [List.length_range]
  exact Nat.le_refl _
theorem timeL_len (dl : List (Dl Str)) : ∀ n : Nat, (timeL dl n).length ≤ n * dl.length
  | 0 => Nat.zero_le _
  | n + 1 => by
    have ih := timeL_len dl n
    unfold timeL at ih ⊢
    rw [fr_succ, List.length_append, Nat.succ_mul]
    exact Nat.add_le_add ih (timeN_len dl n _)
theorem beOf_get {dl : List (Dl Str)} {i : Nat} {d : Dl Str} (h : dl[i]? = some d) : beOf dl i = (d.b, d.e) := by
  unfold beOf
  rw [h]
  rfl
theorem cal_reasons_of_time (F : DefAt K mg "reasons_of_time" s_reasons_of_time ["dealings"]) (T : Bt mg) : Cal P w K mg base "reasons_of_time" ["dealings"] 1 (Ct pDls rTm) := by
  refine cal_data F sc_reasons_of_time (fun ds ⟨a, b, e, _⟩ => by rw [e]; rfl) (fun f cdv A outer s H E hr => ?_)
  refine ⟨_, (pss_cons (ps_set (i := 1) sc_reasons_of_time.nd rfl (.inl rfl) (pe_lst pa_nil))
      (pss_cons (ps_for PassesOwn.never rfl (pi_enum (by rfl) T.enumerate_ (pa_cons (pv 0) pa_nil)) (pg_tup rfl (pgs_cons (pg_name (i := 2) sc_reasons_of_time.nd rfl (.inl rfl) (.inl rfl)) (pgs_cons (pg_name (i := 3) sc_reasons_of_time.nd rfl (.inl rfl) (.inl rfl)) pgs_nil))) (pss_one (ps_for PassesOwn.never rfl (pi_enum (by rfl) T.enumerate_ (pa_cons (pv 0) pa_nil)) (pg_tup rfl (pgs_cons (pg_name (i := 4) sc_reasons_of_time.nd rfl (.inl rfl) (.inl rfl)) (pgs_cons (pg_name (i := 5) sc_reasons_of_time.nd rfl (.inl rfl) (.inl rfl)) pgs_nil))) (pss_one (ps_if (pt_cmpR op_lt (pe_ix ix_tup (pv 3) pe_int (fun _ _ => rfl)) (pe_ix ix_tup (pv 5) pe_int (fun _ _ => rfl)) (nomark _)) (pss_one (ps_expr (pe_bm PySem.F.plainAttrs_list PySem.F.slot_list_append PySem.F.type_list_append mt_append (pv 1) (pa_cons (pe_tup (pa_cons (pv 2) (pa_cons (pv 4) (pa_cons pe_str (pa_cons pe_non pa_nil))))) pa_nil)))) pss_nil)))))
      (pss_one (ps_ret (pv 1))))), fun ds ⟨dl, vs, e, G⟩ => ?_⟩
  subst e
  have h12 := G.n12
  refine sw_seq (sw_asgN (en_lst ea_nil (by simp)) ?_)
  refine sw_seq (sw_forE [2, 3, 4, 5] dl dealD (wk_enum (ea_cons (ev_var rfl) ea_nil)) (fun i ρ => ρ = [.im (dealsD dl), .mu (.list ((timeL dl i).map rsD)), .no, .no, .no, .no]) rfl (fun i d ρ hd e => ?_) (fun ρ e => ?_))
  · subst e
    have hi := (List.getElem?_eq_some_iff.mp hd).1
    have hbd : (timeL dl i).length ≤ 144 := Nat.le_trans (timeL_len dl i) (Nat.le_trans (Nat.mul_le_mul (show i ≤ 12 by omega) h12) (by decide))
    refine ⟨_, _, tg_tup (tgs_cons tg_name (tgs_cons tg_name tgs_nil)), ?_⟩
    refine sw_forE [4, 5] dl dealD (wk_enum (ea_cons (ev_var rfl) ea_nil)) (fun j ρ => ρ = [.im (dealsD dl), .mu (.list ((timeL dl i ++ timeN dl i j).map rsD)), .im (.int (i : Int)), .im (dealD d), .no, .no]) (by rw [show timeN dl i 0 = [] from rfl, List.append_nil]; rfl) (fun j d' ρ hd' e => ?_) (fun ρ e => ?_)
    · subst e
      have hj := (List.getElem?_eq_some_iff.mp hd').1
      refine ⟨_, _, tg_tup (tgs_cons tg_name (tgs_cons tg_name tgs_nil)), ?_⟩
      have es : timeN dl i (j + 1) = timeN dl i j ++ (if d.e < d'.b then some (⟨i, j, .time, none⟩ : Rn Str) else none).toList := by
        unfold timeN
        rw [List.range_succ, List.filterMap_append, beOf_get hd]
        simp only [List.filterMap_cons, List.filterMap_nil, beOf_get hd']
        by_cases c : d.e < d'.b
        · simp [c]
        · simp [c]
      refine sw_if (et_test (ev_op (ev_op (d := .tuple [.int d.b, .int d.e, .tuple (d.ds.map deedD)]) (ev_var rfl) ev_int (rv_ixT rfl)) (ev_op (d := .tuple [.int d'.b, .int d'.e, .tuple (d'.ds.map deedD)]) (ev_var rfl) ev_int (rv_ixT rfl)) rv_lt)) (fun c => ?_) (fun c => sw_next ?_)
      · rw [if_pos (of_decide_eq_true c)] at es
        refine sw_append rfl (ev_tup (ea_cons (ev_var rfl) (ea_cons (ev_var rfl) (ea_cons ev_str (ea_cons ev_non ea_nil)))) (by simp)) (by
          have := timeN_len dl i j
          rw [List.length_map, List.length_append]
          omega) ?_
        show _ = _
        rw [es]
        simp only [List.map_append]
        rw [← List.append_assoc]
        rfl
      · rw [if_neg (of_decide_eq_false c)] at es
        show _ = _
        rw [es]
        simp only [Option.toList_none, List.append_nil]
        rfl
    · subst e
      show _ = _
      have e1 : timeL dl (i + 1) = timeL dl i ++ timeN dl i dl.length := by
        unfold timeL
        rw [fr_succ]
      rw [e1]
      rfl
  · subst e
    refine sw_retM rfl fun dl' e' => ?_
    have e2 := dealsD_inj (List.cons.inj e').1
    subst e2
    rfl
theorem ev_time {ρ : Ro} {ta : TA} {E : XK} {dl : List (Dl Str)} {vs : Vr} (h : EvA ta ρ [dealsD dl]) (G : Good dl vs) : Ev (tCall (Ct pDls rTm) [] E ta) ρ (.list ((timeL dl dl.length).map rsD)) := ev_call h ⟨dl, vs, rfl, G⟩ fun d' r => r dl rfl
end
end Tk

set_option Elab.async false
set_option linter.all false
set_option maxRecDepth 100000
set_option maxHeartbeats 4000000
/-! D6: a read's reasons. -/
namespace Tk
open PySem PySem.Spec PyProof.Rows L2 Dm
section
variable {P : Program} {w : World} {K : PySem.W.Frag} {mg : Str → Option Value} {base : Heap}
theorem vers_getD (vs : Vr) (n : Str) : (getD' (versK vs) (.inr n)).getD (.list []) = .list ((vlOf vs n).map .int) := by
  rw [versK_get]
  unfold vlOf
  cases vs.find? fun p => decide (p.1 = n) <;> rfl
theorem vl_len {dl : List (Dl Str)} {vs : Vr} (G : Good dl vs) (n : Str) : (vlOf vs n).length ≤ 100 := by
  unfold vlOf
  cases c : vs.find? fun p => decide (p.1 = n) with
  | none => exact Nat.zero_le _
  | some p => exact (G.nm p (List.mem_of_find?_eq_some c)).2.2.1
theorem nextL_mem {vl : Str → List Int} {n : Str} {v y : Int} (h : y ∈ nextL vl n v) : y ∈ vl n := by
  unfold nextL at h
  by_cases c : v ∈ 0 :: vl n
  · rw [if_pos c, List.drop_succ_cons] at h
    exact List.mem_of_mem_drop (List.mem_of_mem_take h)
  · rw [if_neg c] at h
    cases h
theorem nextL_len (vl : Str → List Int) (n : Str) (v : Int) : (nextL vl n v).length ≤ 1 := by
  unfold nextL
  by_cases c : v ∈ 0 :: vl n
  · rw [if_pos c, List.length_take]
    exact Nat.min_le_left _ _
  · rw [if_neg c]
    exact Nat.zero_le _
theorem readL_len (dl : List (Dl Str)) (vl : Str → List Int) (i : Nat) (q : Str × Int) : (readL dl vl i q).length ≤ 2 := by
  unfold readL missL seenL
  have := nextL_len vl q.1 q.2
  rw [List.length_append, List.length_map]
  by_cases c : q.2 ∈ vl q.1
  · rw [if_pos c, List.length_singleton]
    omega
  · rw [if_neg c, List.length_nil]
    omega
/-- the branches meet again -/
theorem sw_mid {t u : TS} {ρ : Ro} {Φ : Po} (M : Ro → Prop) (h : Sw t ρ { Φ with nx := M }) (h2 : ∀ ρ', M ρ' → Sw u ρ' Φ) : Sw (tSeq t u) ρ Φ := sw_seq fun B F H σ en Dn kn kr kb kc => h B F H σ en Dn (fun ρ' F' H' σ' m en' fr => kn ρ' F' H' σ' (h2 ρ' m) en' fr) kr kb kc
abbrev s_reasons_of_read : Stmt := topS 22
theorem sc_reasons_of_read : FnScope ["number", "name", "worth", "versions", "writers", "found", "rising", "newer"] ["number", "name", "worth", "versions", "writers"] (defScope s_reasons_of_read) := ⟨rfl, rfl, rfl, by decide +kernel, rfl, by decide +kernel, by decide +kernel⟩
def pRd (ds : List D) : Prop := ∃ (dl : List (Dl Str)) (vs : Vr) (kds : List (List Key × D)) (i : Nat) (n : Str) (v : Int), ds = [.int (i : Int), .str n, .int v, versD vs, .dictT kds] ∧ Good dl vs ∧ WrOk dl kds
def rRd (ds : List D) (r : D) : Prop := ∀ (dl : List (Dl Str)) (vs : Vr) (kds : List (List Key × D)) (i : Nat) (n : Str) (v : Int), ds = [.int (i : Int), .str n, .int v, versD vs, .dictT kds] → Good dl vs → WrOk dl kds → r = .list ((readL dl (vlOf vs) i (n, v)).map rsD)
theorem same_wOf {dl dl2 : List (Dl Str)} {vl vl2 : Str → List Int} {kds : List (List Key × D)} (F : Fit dl vl) (W : WrOk dl kds) (F2 : Fit dl2 vl2) (W2 : WrOk dl2 kds) {n : Str} {v : Int} (h : v ∈ vl n) (h2 : v ∈ vl2 n) : wOf dl n v = wOf dl2 n v := by
  have a := W.of F h
  rw [W2.of F2 h2] at a
  have a := Option.some.inj a
  injection a with a
  omega
theorem flatMap_same {α β : Type} {f g : α → List β} : ∀ {l : List α}, (∀ x ∈ l, f x = g x) → l.flatMap f = l.flatMap g
  | [], _ => rfl
  | x :: l, h => by rw [List.flatMap_cons, List.flatMap_cons, h x (.head _), flatMap_same fun y hy => h y (.tail _ hy)]
theorem en_after {ρ : Ro} {ta : TA} {E : XK} {dl : List (Dl Str)} {vs : Vr} {kds : List (List Key × D)} (h : EvA ta ρ [versD vs, .dictT kds]) (G : Good dl vs) (W : WrOk dl kds) : EvN (tCall (CtN pAf rAf) [] E ta) ρ (.list ((afterL dl vs).map rsD)) := en_call h ⟨dl, vs, kds, rfl, G, W⟩ fun d' ⟨dl2, vs2, kds2, e, G2, W2, e2⟩ => by
  injection e with e1 e
  injection e with e3 _
  have e1 := versD_inj e1
  injection e3 with e3
  subst e1 e3
  rw [e2]
  have : afterL dl2 vs = afterL dl vs := flatMap_same fun p hp => List.map_congr_left fun q hq => by
    have hv := (vlOf_mem G.kn hp).2
    obtain ⟨i, hi⟩ := List.getElem?_of_mem hq
    have m := zip_next hi
    rw [same_wOf G2.fit W2 G.fit W (hv ▸ m.1) (hv ▸ m.1), same_wOf G2.fit W2 G.fit W (hv ▸ m.2) (hv ▸ m.2)]
  rw [this]
theorem cal_reasons_of_read (F : DefAt K mg "reasons_of_read" s_reasons_of_read ["number", "name", "worth", "versions", "writers"]) (T : Bt mg) : Cal P w K mg base "reasons_of_read" ["number", "name", "worth", "versions", "writers"] 1 (Ct pRd rRd) := by
  refine cal_data F sc_reasons_of_read (fun ds ⟨a, b, c, i, n, v, e, _⟩ => by rw [e]; rfl) (fun f cdv A outer s H E hr => ?_)
  have hu := hu_of hr
  refine ⟨_, (pss_cons (ps_set (i := 5) sc_reasons_of_read.nd rfl (.inl rfl) (pe_lst pa_nil))
      (pss_cons (ps_set (i := 6) sc_reasons_of_read.nd rfl (.inl rfl) (pe_op op_cat (pe_lst (pa_cons pe_int pa_nil)) (pe_dget2 hu (pv 3) (pv 1) (pe_lst pa_nil) ⟨rfl, rfl, rfl, rfl⟩)))
      (pss_cons (ps_if (pt_cmp (pc_din hu (pe_tup (pa_cons (pv 1) (pa_cons (pv 2) pa_nil))) (pv 4)) rfl) (pss_one (ps_expr (pe_bm PySem.F.plainAttrs_list PySem.F.slot_list_append PySem.F.type_list_append mt_append (pv 5) (pa_cons (pe_tup (pa_cons (pe_dget hu (pv 4) (pe_tup (pa_cons (pv 1) (pa_cons (pv 2) pa_nil))) (fun _ _ => rfl)) (pa_cons (pv 0) (pa_cons pe_str (pa_cons (pv 1) pa_nil))))) pa_nil)))) pss_nil)
      (pss_cons (ps_if (pt_cmpR op_in_seq (pv 2) (pv 6) (by rfl)) (pss_one (ps_for PassesOwn.never rfl (pi_list (pe_slice sl_list (pv 6) (po_some (pe_op op_add (pe_bm PySem.F.plainAttrs_list PySem.F.slot_list_index PySem.F.type_list_index mt_index (pv 6) (pa_cons (pv 2) pa_nil)) pe_int)) (po_some (pe_op op_add (pe_bm PySem.F.plainAttrs_list PySem.F.slot_list_index PySem.F.type_list_index mt_index (pv 6) (pa_cons (pv 2) pa_nil)) pe_int)))) (pg_name (i := 7) sc_reasons_of_read.nd rfl (.inl rfl) (.inl rfl)) (pss_one (ps_expr (pe_bm PySem.F.plainAttrs_list PySem.F.slot_list_append PySem.F.type_list_append mt_append (pv 5) (pa_cons (pe_tup (pa_cons (pv 0) (pa_cons (pe_dget hu (pv 4) (pe_tup (pa_cons (pv 1) (pa_cons (pv 7) pa_nil))) (fun _ _ => rfl)) (pa_cons pe_str (pa_cons (pv 1) pa_nil))))) pa_nil)))))) pss_nil)
      (pss_one (ps_ret (pv 5))))))), fun ds ⟨dl, vs, kw, i, n, v, e, G, W⟩ => ?_⟩
  subst e
  have hlen := vl_len G n
  -- the answer
  have fin : ∀ ρ, ρ[5]? = some (Ent.mu (.list ((seenL dl (vlOf vs) i n v ++ missL dl (vlOf vs) i n v).map rsD))) → Sw (tRet (tVar 5)) ρ { nx := fun _ => rRd [.int (i : Int), .str n, .int v, versD vs, .dictT kw] .none, rt := rRd [.int (i : Int), .str n, .int v, versD vs, .dictT kw] } := fun ρ h => sw_retM h (show rRd _ _ from fun dl2 vs2 kw2 i2 n2 v2 e G2 W2 => by
    injection e with e1 e
    injection e with e2 e
    injection e with e3 e
    injection e with e4 e
    injection e with e5 e
    injection e1 with e1
    injection e2 with e2
    injection e3 with e3
    have e4 := versD_inj e4
    injection e5 with e5
    have e1 := Int.ofNat_inj.mp e1
    subst e1 e2 e3 e4 e5
    have s1 : seenL dl (vlOf vs) i n v = seenL dl2 (vlOf vs) i n v := by
      unfold seenL
      by_cases c : v ∈ vlOf vs n
      · rw [if_pos c, if_pos c, same_wOf G.fit W G2.fit W2 c c]
      · rw [if_neg c, if_neg c]
    have s2 : missL dl (vlOf vs) i n v = missL dl2 (vlOf vs) i n v := by
      unfold missL
      refine List.map_congr_left fun y hy => ?_
      rw [same_wOf G.fit W G2.fit W2 (nextL_mem hy) (nextL_mem hy)]
    unfold readL
    show D.list _ = D.list _
    rw [s1, s2])
  refine sw_seq (sw_asgN (en_lst ea_nil (by simp)) ?_)
  refine sw_seq (sw_asg (EvN.ev (en_cat (ds := [.int 0]) (es := (vlOf vs n).map .int) (EvN.ev (en_lst (ea_cons ev_int ea_nil) (by simp))) ((ev_dget2S (ev_var rfl) (ev_var rfl) (EvN.ev (en_lst ea_nil (by simp)))).cast (vers_getD vs n)) (by rw [List.length_map, List.length_singleton]; omega))) ?_)
  refine sw_mid (fun ρ => ρ = [.im (.int (i : Int)), .im (.str n), .im (.int v), .im (versD vs), .im (.dictT kw), .mu (.list ((seenL dl (vlOf vs) i n v).map rsD)), .im (.list ((0 :: vlOf vs n).map .int)), .no]) (sw_if (et_val ((ev_dinT (ev_var rfl) (ev_tup (ea_cons (ev_var rfl) (ea_cons (ev_var rfl) ea_nil)) (by simp))).cast (by rw [W.has G.fit]))) (fun c => ?_) (fun c => sw_next ?_)) (fun ρ e => ?_)
  · have c := of_decide_eq_true c
    have e : seenL dl (vlOf vs) i n v = [⟨wOf dl n v, i, .seen, some n⟩] := by
      unfold seenL
      rw [if_pos c]
    refine sw_append rfl (ev_tup (ea_cons (ev_dgetT (ev_var rfl) (ev_tup (ea_cons (ev_var rfl) (ea_cons (ev_var rfl) ea_nil)) (by simp)) (W.of G.fit c)) (ea_cons (ev_var rfl) (ea_cons ev_str (ea_cons (ev_var rfl) ea_nil)))) (by simp)) (by simp) ?_
    show _ = _
    rw [e]
    rfl
  · have c := of_decide_eq_false c
    have e : seenL dl (vlOf vs) i n v = [] := by
      unfold seenL
      rw [if_neg c]
    show _ = _
    rw [e]
    rfl
  · subst e
    generalize hl : seenL dl (vlOf vs) i n v = l
    have hl1 : l.length ≤ 1 := by
      rw [← hl]
      unfold seenL
      by_cases c : v ∈ vlOf vs n
      · rw [if_pos c]
        exact Nat.le_refl _
      · rw [if_neg c]
        exact Nat.zero_le _
    refine sw_seq (sw_if (et_test (ev_op (ev_var rfl) (ev_var rfl) rv_inL)) (fun c => ?_) (fun c => sw_next (fin _ ?_)))
    · have c := of_decide_eq_true c
      have hix : (0 :: vlOf vs n).idxOf v < (0 :: vlOf vs n).length := List.idxOf_lt_length_of_mem c
      have hnx : nextL (vlOf vs) n v = ((0 :: vlOf vs n).drop ((0 :: vlOf vs n).idxOf v + 1)).take 1 := by
        unfold nextL
        rw [if_pos c]
      refine sw_forX [7] (nextL (vlOf vs) n v) D.int ?_ (fun j ρ => ρ = [.im (.int (i : Int)), .im (.str n), .im (.int v), .im (versD vs), .im (.dictT kw), .mu (.list ((l ++ ((nextL (vlOf vs) n v).take j).map fun y => (⟨i, wOf dl n y, .missed, some n⟩ : Rn Str)).map rsD)), .im (.list ((0 :: vlOf vs n).map .int)), .no]) (by rw [List.take_zero, List.map_nil, List.append_nil]; rfl) (fun j y ρ hy e => ?_) (fun ρ e => ?_)
      · refine wk_list ((EvN.ev (en_slL (ev_var (d := .list ((0 :: vlOf vs n).map .int)) rfl) (eo_some (i := (((0 :: vlOf vs n).idxOf v + 1 : Nat) : Int)) (ev_op (ev_index (ev_var rfl) (ev_var rfl) c) ev_int rv_add)) (eo_some (i := (((0 :: vlOf vs n).idxOf v + 2 : Nat) : Int)) (ev_op (ev_index (ev_var rfl) (ev_var rfl) c) ev_int rv_add)))).cast ?_)
        rw [cut_both (by rw [List.length_map]; exact hix), hnx, map_drop', map_take']
        congr 3
        omega
      · subst e
        refine ⟨_, _, tg_name, ?_⟩
        refine sw_append rfl (ev_tup (ea_cons (ev_var rfl) (ea_cons (ev_dgetT (ev_var rfl) (ev_tup (ea_cons (ev_var rfl) (ea_cons (ev_var rfl) ea_nil)) (by simp)) (W.of G.fit (nextL_mem (List.mem_of_getElem? hy)))) (ea_cons ev_str (ea_cons (ev_var rfl) ea_nil)))) (by simp)) (by
          have := nextL_len (vlOf vs) n v
          rw [List.length_map, List.length_append, List.length_map, List.length_take]
          omega) ?_
        show _ = _
        have e1 : (nextL (vlOf vs) n v).take (j + 1) = (nextL (vlOf vs) n v).take j ++ [y] := by
          rw [List.take_add_one, hy]
          rfl
        rw [e1]
        simp only [List.map_append, List.append_assoc]
        rfl
      · subst e
        rw [List.take_length]
        refine fin _ ?_
        rw [hl]
        rfl
    · have c := of_decide_eq_false c
      have : missL dl (vlOf vs) i n v = [] := by
        unfold missL nextL
        rw [if_neg c]
        rfl
      rw [this, List.append_nil, hl]
      rfl
theorem ev_reason {ρ : Ro} {ta : TA} {E : XK} {dl : List (Dl Str)} {vs : Vr} {kds : List (List Key × D)} {i : Nat} {n : Str} {v : Int} (h : EvA ta ρ [.int (i : Int), .str n, .int v, versD vs, .dictT kds]) (G : Good dl vs) (W : WrOk dl kds) : Ev (tCall (Ct pRd rRd) [] E ta) ρ (.list ((readL dl (vlOf vs) i (n, v)).map rsD)) := ev_call h ⟨dl, vs, kds, i, n, v, rfl, G, W⟩ fun d' r => r dl vs kds i n v rfl G W
end
end Tk

set_option Elab.async false
set_option linter.all false
set_option maxRecDepth 100000
set_option maxHeartbeats 2000000
/-! Md: the added rules by their data. -/
namespace Tk
open PySem PySem.Spec PyProof.Rows L2 Dm
section
variable {ρ : Ro} {te ta : TE} {ds : List D} {K : PySem.W.Frag} {F : FS} {H : Hp}
theorem wk_enumT {ta : TA} (h : EvA ta ρ [.tuple ds]) : WkD (iEnumT K ta) ρ (enumD ds) := fun B F H σ en R k => h B F H σ en _ fun vs F1 H1 g1 r1 => by
  obtain ⟨v, ws, rfl, p, q⟩ := r1
  have q : ws = [] := q
  subst q
  obtain ⟨a, xs, rfl, fa, ha, r⟩ := p
  refine ⟨a, xs, rfl, SqT.of ha, k _ F1 H1 g1 ⟨fun i F2 H2 hi fr => ?_, fun F2 H2 fr => ?_, fun i F2 H2 x H' hi fr hF y => ?_⟩⟩
  · rw [enumD_len] at hi
    exact ⟨xs, xs[i]'(by rw [r.len]; exact hi), SqT.of ((fr.e a fa).trans ha), List.getElem?_eq_getElem _⟩
  · exact ⟨xs, SqT.of ((fr.e a fa).trans ha), by rw [r.len, enumD_len]⟩
  · obtain ⟨T, z, rfl, hT, rfl, y⟩ := y
    obtain ⟨d, hd, rd⟩ := (Rps.mo fr.mo _ _ r).of_get (y xs (SqT.of ((fr.e a fa).trans ha)))
    obtain ⟨g, rp⟩ := pair_new (d := .int (i : Int)) (x := .int (i : Int)) hF hT rfl rd
    exact ⟨_, _, g, enumD_get hd, rp⟩
theorem Rps.rev : ∀ {ds : List D} {vs : List V}, Rps F H ds vs → Rps F H ds.reverse vs.reverse
  | [], vs, h => by
    have h : vs = [] := h
    subst h
    exact rfl
  | d :: ds, vs, h => by
    obtain ⟨v, ws, rfl, p, q⟩ := h
    rw [List.reverse_cons, List.reverse_cons]
    exact q.rev.append (Rps.one p)
theorem en_listRev (h : Ev te ρ (.list ds)) : EvN (tListRev K te) ρ (.list ds.reverse) := fun B F H σ en Q k => h B F H σ en _ fun v F1 H1 g1 r1 => by
  obtain ⟨a, xs, rfl, fa, ha, r⟩ := r1
  exact ⟨a, xs, rfl, SqL.of ha, fun p hp => k p F1 _ (g1.s.free hp) (g1.trans (gw_upd g1.h hp)) (fun f => g1.h p f hp) ⟨_, upd_same, (r.gw (gw_upd g1.h hp)).rev⟩⟩
/-! ### rows of reasons -/
def keyR (r : Rn Str) : Kk := [some (.inl (r.i : Int)), some (.inl (r.j : Int)), some (.inr (kdS r.k)), r.n.map Sum.inr]
/-- a reason has a name just where it is not of time -/
def RsWf (r : Rn Str) : Prop := r.n = none ↔ r.k = .time
theorem sib_keys {r s : Rn Str} (hr : RsWf r) (hs : RsWf s) : Sib (keyR r) (keyR s) := by
  refine ⟨⟨_, _, _, _, _, _, _, _, rfl, rfl, fun e => ?_⟩⟩
  have ek := kdS_inj e
  cases c : r.n with
  | none =>
    have : s.n = none := hs.mpr (ek ▸ hr.mp c)
    rw [this]
    exact .inl ⟨rfl, rfl⟩
  | some z =>
    cases d : s.n with
    | none =>
      have := hr.mpr (ek.symm ▸ hs.mp d)
      rw [c] at this
      cases this
    | some z' => exact .inr ⟨z, z', rfl, rfl⟩
theorem rp_row {r : Rn Str} {v : V} (h : Rp F H (rsD r) v) : ∃ a, v = .ref a ∧ F a ∧ H a = some (.tup ((keyR r).map okV)) := by
  obtain ⟨a, xs, rfl, fa, ha, x1, ws, rfl, h1, x2, ws, rfl, h2, x3, ws, rfl, h3, x4, ws, rfl, h4, h5⟩ := h
  have h1 : x1 = .int r.i := h1
  have h2 : x2 = .int r.j := h2
  have h3 : x3 = .str (kdS r.k) := h3
  have h5 : ws = [] := h5
  subst h1 h2 h3 h5
  refine ⟨a, rfl, fa, ha.trans ?_⟩
  have h4 : x4 = okV (r.n.map Sum.inr) := by
    cases c : r.n with
    | none =>
      rw [c] at h4
      exact h4
    | some z =>
      rw [c] at h4
      exact h4
  rw [h4]
  rfl
theorem row_rp {r : Rn Str} {a : Addr} (fa : F a) (ha : H a = some (.tup ((keyR r).map okV))) : Rp F H (rsD r) (.ref a) := by
  refine ⟨a, _, rfl, fa, ha, _, _, rfl, rfl, _, _, rfl, rfl, _, _, rfl, rfl, _, _, rfl, ?_, rfl⟩
  cases r.n <;> rfl
theorem keyR_inj {r s : Rn Str} (h : keyR r = keyR s) : r = s := by
  unfold keyR at h
  injection h with h1 h
  injection h with h2 h
  injection h with h3 h
  injection h with h4 h
  have h1 := Sum.inl.inj (Option.some.inj h1)
  have h2 := Sum.inl.inj (Option.some.inj h2)
  have h3 := kdS_inj (Sum.inr.inj (Option.some.inj h3))
  have h4 : r.n = s.n := by
    cases c : r.n with
    | none =>
      rw [c] at h4
      cases d : s.n with
      | none => rfl
      | some z =>
        rw [d] at h4
        cases h4
    | some z =>
      rw [c] at h4
      cases d : s.n with
      | none =>
        rw [d] at h4
        cases h4
      | some z' =>
        rw [d] at h4
        rw [Sum.inr.inj (Option.some.inj h4)]
  cases r
  cases s
  simp only at h1 h2 h3 h4
  rw [Int.ofNat_inj.mp h1, Int.ofNat_inj.mp h2, h3, h4]
theorem rows_of : ∀ {rs : List (Rn Str)} {vs : List V}, Rps F H (rs.map rsD) vs → ∃ ks : Rows, vs = ks.map (fun p => V.ref p.1) ∧ ks.map (·.2) = rs.map keyR ∧ (∀ p ∈ ks, F p.1 ∧ H p.1 = some (.tup (p.2.map okV)))
  | [], vs, h => ⟨[], h, rfl, fun p hp => nomatch hp⟩
  | r :: rs, vs, h => by
    obtain ⟨v, ws, rfl, p, q⟩ := h
    obtain ⟨ks, e1, e2, e3⟩ := rows_of q
    obtain ⟨a, rfl, fa, ha⟩ := rp_row p
    refine ⟨(a, keyR r) :: ks, by rw [e1]; rfl, by rw [List.map_cons, List.map_cons, e2], fun p hp => ?_⟩
    rcases List.mem_cons.mp hp with z | z
    · rw [z]
      exact ⟨fa, ha⟩
    · exact e3 p z
theorem evp_sortedSet {rs : List (Rn Str)} (h : Ev te ρ (.list (rs.map rsD))) (hl : rs.length < 300) (wf : ∀ r ∈ rs, RsWf r) :
    EvP (tSortedSet K te) ρ (fun d => ∃ L : List (Rn Str), d = .list (L.map rsD) ∧ L.length ≤ rs.length ∧ ∀ r, r ∈ L ↔ r ∈ rs) := fun B F H σ en Q k => h B F H σ en _ fun v F1 H1 g1 r1 => by
  obtain ⟨a, xs, rfl, fa, ha, r⟩ := r1
  obtain ⟨ks, rfl, e2, e3⟩ := rows_of r
  have len : ks.length = rs.length := by rw [← List.length_map (f := (·.2)) (as := ks), e2, List.length_map]
  have mem : ∀ p ∈ ks, ∃ s ∈ rs, p.2 = keyR s := fun p hp => by
    have : p.2 ∈ rs.map keyR := by rw [← e2]; exact List.mem_map_of_mem hp
    obtain ⟨s, hs, e⟩ := List.mem_map.mp this
    exact ⟨s, hs, e.symm⟩
  refine ⟨a, ks, rfl, SqL.of ha, fun p hp => SqT.of (e3 p hp).2, by rw [len]; exact hl, fun p hp q hq => ?_, fun L d hd m1 m2 m3 => ?_⟩
  · obtain ⟨s, hs, e⟩ := mem p hp
    obtain ⟨s', hs', e'⟩ := mem q hq
    rw [e, e']
    exact sib_keys (wf s hs) (wf s' hs')
  · -- the members as reasons
    have ofL : ∀ L : Rows, (∀ q ∈ L, q ∈ ks) → ∃ R : List (Rn Str), R.map keyR = L.map (·.2) ∧ Rps F1 H1 (R.map rsD) (L.map fun p => V.ref p.1) := fun L => by
      induction L with
      | nil => exact fun _ => ⟨[], rfl, rfl⟩
      | cons q L ih =>
        intro hq
        obtain ⟨R, b1, b2⟩ := ih fun x hx => hq x (.tail _ hx)
        obtain ⟨s, hs, e⟩ := mem q (hq q (.head _))
        obtain ⟨c1, c2⟩ := e3 q (hq q (.head _))
        rw [e] at c2
        exact ⟨s :: R, by rw [List.map_cons, List.map_cons, b1, e], _, _, rfl, row_rp c1 c2, b2⟩
    obtain ⟨R, b1, b2⟩ := ofL L m1
    have g2 : Gw F1 H1 (addF F1 d) (upd H1 d (.lst (L.map fun p => V.ref p.1))) := Gw.new g1.h hd
    refine k (.list (R.map rsD)) (.ref d) _ _ ⟨R, rfl, ?_, fun s => ⟨fun hs => ?_, fun hs => ?_⟩⟩ (g1.trans g2) ⟨d, _, rfl, .inr rfl, upd_same, b2.gw g2⟩
    · have := congrArg List.length b1
      rw [List.length_map, List.length_map] at this
      omega
    · have : keyR s ∈ L.map (·.2) := by rw [← b1]; exact List.mem_map_of_mem hs
      obtain ⟨q, hq, e⟩ := List.mem_map.mp this
      obtain ⟨s', hs', e'⟩ := mem q (m1 q hq)
      rw [keyR_inj (e.symm.trans e')]
      exact hs'
    · have : keyR s ∈ ks.map (·.2) := by rw [e2]; exact List.mem_map_of_mem hs
      obtain ⟨p, hp, e⟩ := List.mem_map.mp this
      obtain ⟨q, hq, e'⟩ := m2 p hp
      have : keyR s ∈ R.map keyR := by rw [b1, ← e, ← e']; exact List.mem_map_of_mem hq
      obtain ⟨s', hs', e''⟩ := List.mem_map.mp this
      rw [← keyR_inj e'']
      exact hs'
end
/-! ### in a tuple of data -/
section
variable {X : Cx}
def rInDT (K : PySem.W.Frag) : R2 := fun x y H Q => ∃ d ds, Dp K H x d ∧ Dp K H y (.tuple ds) ∧ SeqAt.shaped d = true ∧ SeqAt.shaped (.tuple ds) = true ∧ Q (.bl (ds.any fun z => PyData.eqv z d)) H
theorem op_inDT (hu : X.A.units + 65 < cLine) : OpR X (compareOp .In) (rInDT X.K) := by
  intro pins s σ H x y v u Q I rx ry h
  obtain ⟨d, ds, hd, he, sd, se, q⟩ := h
  obtain ⟨as, r1⟩ := Dp.reads I d x v hd rx
  obtain ⟨bs, r2⟩ := Dp.reads I (.tuple ds) y u he ry
  exact SeqAt.in_tuple_reads r2 r1 (SeqAt.canLay_of_shaped se) (SeqAt.canLay_of_shaped sd) (room_in_shaped sd hu) ⟨.bl _, H, I, rfl, q⟩
end
/-! ### within a comprehension the frame is named -/
theorem ix_tupK {X : Cx} (K : PySem.W.Frag) (h : X.K = K := by rfl) : IxR X (rIxT K) := h ▸ ix_tup
theorem ix_listK {X : Cx} (K : PySem.W.Frag) (h : X.K = K := by rfl) : IxR X (rIxL K) := h ▸ ix_list
theorem op_in_seqK {X : Cx} (K : PySem.W.Frag) (h : X.K = K := by rfl) : OpR X (compareOp .In) (rIn K false) := h ▸ op_in_seq
theorem op_notIn_seqK {X : Cx} (K : PySem.W.Frag) (h : X.K = K := by rfl) : OpR X (compareOp .NotIn) (rIn K true) := h ▸ op_notIn_seq
theorem rv_inDT {d : D} {ds : List D} {K : PySem.W.Frag} (h1 : okD d = true) (h2 : okD (.tuple ds) = true) : RvD (rInDT K) d (.tuple ds) (.bool ((toPys ds).any fun z => PyData.eqv z (toPy d))) := fun F H x y Q hF hx hy k =>
  ⟨toPy d, toPys ds, okD_dp h1 hx, okD_dp (d := .tuple ds) h2 hy, h1, h2, k _ F H (Gw.refl hF) rfl⟩
end Tk

set_option Elab.async false
set_option linter.all false
set_option maxRecDepth 100000
set_option maxHeartbeats 4000000
/-! D7: all reasons. -/
namespace Tk
open PySem PySem.Spec PyProof.Rows L2 Dm
theorem readsL_len {dl : List (Dl Str)} (h : ∀ d ∈ dl, DealOk d) (vl : Str → List Int) : ∀ n : Nat, (readsL dl vl n).length ≤ 8 * n
  | 0 => Nat.le_refl _
  | n + 1 => by
    have ih := readsL_len h vl n
    unfold readsL at ih ⊢
    rw [fr_succ, List.length_append]
    have b : ∀ l : List (Str × Int), (l.flatMap (readL dl vl n)).length ≤ 2 * l.length := fun l => by
      induction l with
      | nil => exact Nat.le_refl _
      | cons q l ih =>
        rw [List.flatMap_cons, List.length_append, List.length_cons]
        have := readL_len dl vl n q
        omega
    have c : (ra own0 (dsOf dl n)).length ≤ 4 := by
      refine Nat.le_trans (ra_len _ _) ?_
      cases c : dl[n]? with
      | none =>
        unfold dsOf
        rw [c]
        exact Nat.zero_le _
      | some d =>
        rw [dsOf_get c]
        exact (h d (List.mem_of_getElem? c)).2.2.2.2
    have := b (ra own0 (dsOf dl n))
    omega
theorem allL_wf {dl : List (Dl Str)} {vs : Vr} {timed : Bool} {r : Rn Str} (h : r ∈ allL dl vs timed) : RsWf r := by
  unfold allL at h
  unfold RsWf
  rcases List.mem_append.mp h with h | h
  · rcases List.mem_append.mp h with h | h
    · obtain ⟨p, _, h⟩ := List.mem_flatMap.mp h
      obtain ⟨q, _, rfl⟩ := List.mem_map.mp h
      simp
    · obtain ⟨i, _, h⟩ := List.mem_flatMap.mp h
      obtain ⟨q, _, h⟩ := List.mem_flatMap.mp h
      unfold readL at h
      rcases List.mem_append.mp h with h | h
      · unfold seenL at h
        by_cases c : q.2 ∈ vlOf vs q.1
        · rw [if_pos c] at h
          rw [List.mem_singleton.mp h]
          simp
        · rw [if_neg c] at h
          cases h
      · obtain ⟨y, _, rfl⟩ := List.mem_map.mp h
        simp
  · by_cases c : timed = true
    · rw [if_pos c] at h
      obtain ⟨i, _, h⟩ := List.mem_flatMap.mp h
      obtain ⟨j, _, h⟩ := List.mem_filterMap.mp h
      by_cases c2 : (beOf dl i).2 < (beOf dl j).1
      · rw [if_pos c2] at h
        cases h
        simp
      · rw [if_neg c2] at h
        cases h
    · rw [if_neg c] at h
      cases h
section
variable {P : Program} {w : World} {K : PySem.W.Frag} {mg : Str → Option Value} {base : Heap}
abbrev s_all_reasons : Stmt := topS 24
theorem sc_all_reasons : FnScope ["dealings", "versions", "timed", "writers", "found", "number", "dealing", "name", "worth", "reason"] ["dealings", "versions", "timed"] (defScope s_all_reasons) := ⟨rfl, rfl, rfl, by decide +kernel, rfl, by decide +kernel, by decide +kernel⟩
def pAll (ds : List D) : Prop := ∃ (dl : List (Dl Str)) (vs : Vr) (timed : Bool), ds = [dealsD dl, versD vs, .bool timed] ∧ Good dl vs
def rAll (ds : List D) (r : D) : Prop := ∀ (dl : List (Dl Str)) (vs : Vr) (timed : Bool), ds = [dealsD dl, versD vs, .bool timed] → ∃ rs, r = .list (rs.map rsD) ∧ Known dl vs timed rs
theorem cal_all_reasons (F : DefAt K mg "all_reasons" s_all_reasons ["dealings", "versions", "timed"]) (T : Bt mg) (C_writers_of : Cal P w K mg base "writers_of" ["dealings"] 2 (Ct pDls rWrs)) (C_reasons_after : Cal P w K mg base "reasons_after" ["versions", "writers"] 1 (CtN pAf rAf))
    (C_reads_ahead : Cal P w K mg base "reads_ahead" ["dealing"] 1 (Ct pWr rRa)) (C_reasons_of_read : Cal P w K mg base "reasons_of_read" ["number", "name", "worth", "versions", "writers"] 1 (Ct pRd rRd)) (C_reasons_of_time : Cal P w K mg base "reasons_of_time" ["dealings"] 1 (Ct pDls rTm)) :
    Cal P w K mg base "all_reasons" ["dealings", "versions", "timed"] 3 (Ct pAll rAll) := by
  refine cal_data F sc_all_reasons (fun ds ⟨a, b, c, e, _⟩ => by rw [e]; rfl) (fun f cdv A outer s H E hr => ?_)
  have hu := hu_of hr
  refine ⟨_, (pss_cons (ps_set (i := 3) sc_all_reasons.nd rfl (.inl rfl) (pe_callC _ C_writers_of hr (pa_cons (pv 0) pa_nil)))
      (pss_cons (ps_set (i := 4) sc_all_reasons.nd rfl (.inl rfl) (pe_callC _ C_reasons_after hr (pa_cons (pv 1) (pa_cons (pv 3) pa_nil))))
      (pss_cons (ps_for PassesOwn.never rfl (pi_enum (by rfl) T.enumerate_ (pa_cons (pv 0) pa_nil)) (pg_tup rfl (pgs_cons (pg_name (i := 5) sc_all_reasons.nd rfl (.inl rfl) (.inl rfl)) (pgs_cons (pg_name (i := 6) sc_all_reasons.nd rfl (.inl rfl) (.inl rfl)) pgs_nil))) (pss_one (ps_for PassesOwn.never rfl (pi_list (pe_callC _ C_reads_ahead hr (pa_cons (pv 6) pa_nil))) (pg_tup rfl (pgs_cons (pg_name (i := 7) sc_all_reasons.nd rfl (.inl rfl) (.inl rfl)) (pgs_cons (pg_name (i := 8) sc_all_reasons.nd rfl (.inl rfl) (.inl rfl)) pgs_nil))) (pss_one (ps_expr (pe_bm PySem.F.plainAttrs_list PySem.F.slot_list_extend PySem.F.type_list_extend mt_extend (pv 4) (pa_cons (pe_callC _ C_reasons_of_read hr (pa_cons (pv 5) (pa_cons (pv 7) (pa_cons (pv 8) (pa_cons (pv 1) (pa_cons (pv 3) pa_nil)))))) pa_nil)))))))
      (pss_cons (ps_if (pt_val (pv 2)) (pss_one (ps_expr (pe_bm PySem.F.plainAttrs_list PySem.F.slot_list_extend PySem.F.type_list_extend mt_extend (pv 4) (pa_cons (pe_callC _ C_reasons_of_time hr (pa_cons (pv 0) pa_nil)) pa_nil)))) pss_nil)
      (pss_one (ps_ret (pe_sortedSet rfl hr.units65 (by rfl) T.sorted_ (by rfl) T.set_ (pe_lc (own := [("reason", 9)]) (g := gName 9) (by rfl) sc_all_reasons.nd (pi_list (pv 4)) (blkOk_by (own := [("reason", 9)]) (N := ["dealings", "versions", "timed", "writers", "found", "number", "dealing", "name", "worth", "reason"]) (sc := defScope s_all_reasons) (by decide +kernel)) (fun _ _ _ _ _ => (pg_name (i := 9) sc_all_reasons.nd rfl (.inl rfl) (.inr rfl))) (fun _ _ _ _ _ => pts_one (pt_cmpR op_ne (pe_ix (ix_tupK K) (pv 9) pe_int (fun _ _ => rfl)) (pe_ix (ix_tupK K) (pv 9) pe_int (fun _ _ => rfl)) (nomark _))) (fun _ _ _ _ _ => (pv 9)))))))))), fun ds ⟨dl, vs, timed, e, G⟩ => ?_⟩
  subst e
  have h12 := G.n12
  have bA : (afterL dl vs).length ≤ 48 := Nat.le_trans (afterL_len dl vs) (by rw [G.sum]; exact G.few)
  have bT : (timeL dl dl.length).length ≤ 144 := Nat.le_trans (timeL_len dl dl.length) (Nat.le_trans (Nat.mul_le_mul h12 h12) (by decide))
  have bR : ∀ i, i ≤ 12 → (readsL dl (vlOf vs) i).length ≤ 96 := fun i hi => Nat.le_trans (readsL_len G.dl _ i) (by omega)
  refine sw_seq (sw_asgP (S := [3]) (evp_writers (ea_cons (ev_var rfl) ea_nil) G) fun d' ⟨kw, e, W⟩ => ⟨_, tg_name, ?_⟩)
  subst e
  refine sw_seq (sw_asgN (en_after (ea_cons (ev_var rfl) (ea_cons (ev_var rfl) ea_nil)) G W) ?_)
  refine sw_seq (sw_forE [5, 6, 7, 8] dl dealD (wk_enum (ea_cons (ev_var rfl) ea_nil)) (fun i ρ => ρ = [.im (dealsD dl), .im (versD vs), .im (.bool timed), .im (.dictT kw), .mu (.list ((afterL dl vs ++ readsL dl (vlOf vs) i).map rsD)), .no, .no, .no, .no, .no]) (by rw [show readsL dl (vlOf vs) 0 = [] from rfl, List.append_nil]; rfl) (fun i d ρ hd e => ?_) (fun ρ e => ?_))
  · subst e
    have hi := (List.getElem?_eq_some_iff.mp hd).1
    have dok := G.dl d (List.mem_of_getElem? hd)
    have hra : (ra own0 d.ds).length ≤ 4 := Nat.le_trans (ra_len _ _) dok.2.2.2.2
    refine ⟨_, _, tg_tup (tgs_cons tg_name (tgs_cons tg_name tgs_nil)), ?_⟩
    refine sw_forX [7, 8] (ra own0 d.ds) pairD (wk_list (ev_reads (ea_cons (ev_var rfl) ea_nil) (Nat.le_trans dok.2.2.2.2 (by decide)))) (fun j ρ => ρ = [.im (dealsD dl), .im (versD vs), .im (.bool timed), .im (.dictT kw), .mu (.list ((afterL dl vs ++ readsL dl (vlOf vs) i ++ ((ra own0 d.ds).take j).flatMap (readL dl (vlOf vs) i)).map rsD)), .im (.int (i : Int)), .im (dealD d), .no, .no, .no]) (by rw [List.take_zero, List.flatMap_nil, List.append_nil]; rfl) (fun j q ρ hq e => ?_) (fun ρ e => ?_)
    · subst e
      have hj := (List.getElem?_eq_some_iff.mp hq).1
      refine ⟨_, _, tg_tup (tgs_cons tg_name (tgs_cons tg_name tgs_nil)), ?_⟩
      refine sw_extendP (P := fun es => es = (readL dl (vlOf vs) i q).map rsD) rfl ((ev_reason (ea_cons (ev_var rfl) (ea_cons (ev_var rfl) (ea_cons (ev_var rfl) (ea_cons (ev_var rfl) (ea_cons (ev_var rfl) ea_nil))))) G W).p.to fun d' e' => ⟨_, e', rfl⟩) (fun es e' => ?_) (fun es e' => ?_)
      · rw [e', List.length_map, List.length_map, List.length_append, List.length_append]
        have h1 := bR i (by omega)
        have h2 := readL_len dl (vlOf vs) i q
        have h3 : (((ra own0 d.ds).take j).flatMap (readL dl (vlOf vs) i)).length ≤ 2 * 4 := by
          have b : ∀ l : List (Str × Int), (l.flatMap (readL dl (vlOf vs) i)).length ≤ 2 * l.length := fun l => by
            induction l with
            | nil => exact Nat.le_refl _
            | cons q l ih =>
              rw [List.flatMap_cons, List.length_append, List.length_cons]
              have := readL_len dl (vlOf vs) i q
              omega
          have := b ((ra own0 d.ds).take j)
          rw [List.length_take] at this
          omega
        omega
      · show _ = _
        rw [e', fl_succ hq]
        simp only [List.map_append, List.append_assoc]
        rfl
    · subst e
      show _ = _
      rw [List.take_length]
      have e1 : readsL dl (vlOf vs) (i + 1) = readsL dl (vlOf vs) i ++ (ra own0 d.ds).flatMap (readL dl (vlOf vs) i) := by
        unfold readsL
        rw [fr_succ, dsOf_get hd]
      rw [e1, ← List.append_assoc]
      rfl
  · subst e
    refine sw_mid (fun ρ => ρ = [.im (dealsD dl), .im (versD vs), .im (.bool timed), .im (.dictT kw), .mu (.list ((allL dl vs timed).map rsD)), .no, .no, .no, .no, .no]) (sw_if (et_val (ev_var rfl)) (fun c => ?_) (fun c => sw_next ?_)) (fun ρ e => ?_)
    · refine sw_extendP (P := fun es => es = (timeL dl dl.length).map rsD) rfl ((ev_time (ea_cons (ev_var rfl) ea_nil) G).p.to fun d' e' => ⟨_, e', rfl⟩) (fun es e' => ?_) (fun es e' => ?_)
      · rw [e', List.length_map, List.length_map, List.length_append]
        have := bR dl.length h12
        omega
      · show _ = _
        unfold allL
        rw [e', if_pos c]
        simp only [List.map_append, List.append_assoc]
        rfl
    · show _ = _
      unfold allL
      rw [if_neg (by rw [c]; decide), List.append_nil]
    · subst e
      have bAll : (allL dl vs timed).length < 300 := by
        unfold allL
        rw [List.length_append, List.length_append]
        have := bR dl.length h12
        by_cases c : timed = true
        · rw [if_pos c]
          omega
        · rw [if_neg c, List.length_nil]
          omega
      refine sw_freeze (i := 4) rfl ?_
      refine sw_retP (evp_sortedSet (rs := (allL dl vs timed).filter fun r => decide (r.i ≠ r.j)) ((EvN.ev (en_lc (allL dl vs timed) rsD (wk_list (ev_var rfl)) (fun r => if r.i ≠ r.j then some (rsD r) else none) (by omega) (fun n r hr => ?_))).cast ?_) (Nat.lt_of_le_of_lt (List.length_filter_le _ _) bAll) (fun r hr => allL_wf (List.mem_filter.mp hr).1)) (fun d' ⟨L, e, l1, l2⟩ => ?_)
      · refine ⟨_, _, tg_name, by decide, ?_, fun e he => ?_⟩
        · refine (et_test (ev_op (ev_op (d := rsD r) (ev_var rfl) ev_int (rv_ixT rfl)) (ev_op (d := rsD r) (ev_var rfl) ev_int (rv_ixT rfl)) rv_neI)).cast ?_
          by_cases c : r.i = r.j
          · simp [c]
          · have c' : ¬ (r.i : Int) = (r.j : Int) := fun z => c (Int.ofNat_inj.mp z)
            simp [c, c']
        · by_cases c : r.i ≠ r.j
          · rw [if_pos c] at he
            cases he
            exact ev_var rfl
          · rw [if_neg c] at he
            cases he
      · congr 1
        generalize allL dl vs timed = l
        induction l with
        | nil => rfl
        | cons r l ih =>
          by_cases c : r.i ≠ r.j
          · rw [List.filterMap_cons, if_pos c, List.filter_cons_of_pos (by simpa using c), List.map_cons, ih]
          · rw [List.filterMap_cons, if_neg c, List.filter_cons_of_neg (by simpa using c), ih]
      · intro dl' vs' timed' e'
        injection e' with e1 e'
        injection e' with e2 e'
        injection e' with e3 e'
        have e1 := dealsD_inj e1
        have e2 := versD_inj e2
        injection e3 with e3
        subst e1 e2 e3
        refine ⟨L, e, ?_, fun r => ?_⟩
        · have := List.length_filter_le (fun r : Rn Str => decide (r.i ≠ r.j)) (allL dl vs timed)
          omega
        · rw [l2, List.mem_filter, decide_eq_true_eq]
theorem evp_all {ρ : Ro} {ta : TA} {E : XK} {dl : List (Dl Str)} {vs : Vr} {timed : Bool} (h : EvA ta ρ [dealsD dl, versD vs, .bool timed]) (G : Good dl vs) : EvP (tCall (Ct pAll rAll) [] E ta) ρ (fun r => ∃ rs, r = .list (rs.map rsD) ∧ Known dl vs timed rs) := (evp_call h ⟨dl, vs, timed, rfl, G⟩).to fun d' r => r dl vs timed rfl
end
end Tk

set_option Elab.async false
set_option linter.all false
set_option maxRecDepth 100000
set_option maxHeartbeats 4000000
/-! D8: the first lost deed. -/
namespace Tk
open PySem PySem.Spec PyProof.Rows L2 Dm
/-- nobody else has written it -/
def badR (dl : List (Dl Str)) (i : Nat) (n : Str) (v : Int) : Bool := decide (v ≠ 0) && (if (n, v) ∈ allW dl then decide (wOf dl n v = i) else true)
def lostAt (dl : List (Dl Str)) (i : Nat) : (Str → Option Int) → List (Dd Str) → Nat → Option Nat
  | _, [], _ => none
  | own, x :: l, j => if x.w = true then lostAt dl i (putO own x.n x.v) l (j + 1) else match own x.n with
    | some u => if u = x.v then lostAt dl i own l (j + 1) else some j
    | none => if badR dl i x.n x.v = true then some j else lostAt dl i own l (j + 1)
theorem la_w {dl : List (Dl Str)} {i : Nat} {own : Str → Option Int} {x : Dd Str} {l : List (Dd Str)} {j : Nat} (h : x.w = true) : lostAt dl i own (x :: l) j = lostAt dl i (putO own x.n x.v) l (j + 1) := by rw [lostAt, if_pos h]
theorem la_s {dl : List (Dl Str)} {i : Nat} {own : Str → Option Int} {x : Dd Str} {l : List (Dd Str)} {j : Nat} (h : ¬ x.w = true) {u : Int} (e : own x.n = some u) : lostAt dl i own (x :: l) j = if u = x.v then lostAt dl i own l (j + 1) else some j := by rw [lostAt, if_neg h, e]
theorem la_n {dl : List (Dl Str)} {i : Nat} {own : Str → Option Int} {x : Dd Str} {l : List (Dd Str)} {j : Nat} (h : ¬ x.w = true) (e : own x.n = none) : lostAt dl i own (x :: l) j = if badR dl i x.n x.v = true then some j else lostAt dl i own l (j + 1) := by rw [lostAt, if_neg h, e]
theorem la_lt {dl : List (Dl Str)} {i : Nat} : ∀ {l : List (Dd Str)} {own : Str → Option Int} {j k : Nat}, lostAt dl i own l j = some k → k < j + l.length
  | [], own, j, k, h => nomatch h
  | x :: l, own, j, k, h => by
    rw [List.length_cons]
    by_cases c : x.w = true
    · rw [la_w c] at h
      have := la_lt h
      omega
    · cases e : own x.n with
      | some u =>
        rw [la_s c e] at h
        by_cases d : u = x.v
        · rw [if_pos d] at h
          have := la_lt h
          omega
        · rw [if_neg d] at h
          cases h
          omega
      | none =>
        rw [la_n c e] at h
        by_cases d : badR dl i x.n x.v = true
        · rw [if_pos d] at h
          cases h
          omega
        · rw [if_neg d] at h
          have := la_lt h
          omega
/-- the first lost deed: whose, at which place -/
def lostOf (dl : List (Dl Str)) : Option (Nat × Nat) := (List.range dl.length).findSome? fun i => (lostAt dl i own0 (dsOf dl i) 0).map fun j => (i, j)
theorem lostOf_none {dl : List (Dl Str)} (h : ∀ i, i < dl.length → lostAt dl i own0 (dsOf dl i) 0 = none) : lostOf dl = none := by
  unfold lostOf
  rw [List.findSome?_eq_none_iff]
  intro i hi
  rw [h i (List.mem_range.mp hi)]
  rfl
theorem lostOf_some {dl : List (Dl Str)} {i j : Nat} (hi : i < dl.length) (h : ∀ k, k < i → lostAt dl k own0 (dsOf dl k) 0 = none) (hj : lostAt dl i own0 (dsOf dl i) 0 = some j) : lostOf dl = some (i, j) := by
  unfold lostOf
  have e : List.range dl.length = List.range i ++ i :: (List.range' (i + 1) (dl.length - (i + 1))) := by
    rw [List.range_eq_range', List.range_eq_range', show dl.length = i + (1 + (dl.length - (i + 1))) by omega, List.range'_append_1.symm, List.range'_append_1.symm]
    congr 1
    rw [Nat.zero_add, show i + (1 + (dl.length - (i + 1))) - (i + 1) = dl.length - (i + 1) by omega]
    rfl
  rw [e, List.findSome?_append, List.findSome?_cons, hj]
  have : (List.range i).findSome? (fun i => (lostAt dl i own0 (dsOf dl i) 0).map fun j => (i, j)) = none := by
    rw [List.findSome?_eq_none_iff]
    intro k hk
    rw [h k (List.mem_range.mp hk)]
    rfl
  rw [this]
  rfl
theorem lostOf_is {dl : List (Dl Str)} {i j : Nat} (h : lostOf dl = some (i, j)) : i < dl.length ∧ lostAt dl i own0 (dsOf dl i) 0 = some j := by
  unfold lostOf at h
  obtain ⟨k, hk, e⟩ := List.exists_of_findSome?_eq_some h
  obtain ⟨j', hj', e2⟩ := Option.map_eq_some_iff.mp e
  cases e2
  exact ⟨List.mem_range.mp hk, hj'⟩
def lostD : Option (Nat × Nat) → D
  | none => .none
  | some (i, j) => .tuple [.int (i : Int), .int (j : Int)]
section
variable {P : Program} {w : World} {K : PySem.W.Frag} {mg : Str → Option Value} {base : Heap}
abbrev s_first_lost : Stmt := topS 25
theorem sc_first_lost : FnScope ["dealings", "writers", "number", "dealing", "own", "place", "deed", "verb", "name", "worth"] ["dealings"] (defScope s_first_lost) := ⟨rfl, rfl, rfl, by decide +kernel, rfl, by decide +kernel, by decide +kernel⟩
def rLost (ds : List D) (r : D) : Prop := ∀ dl : List (Dl Str), ds = [dealsD dl] → r = lostD (lostOf dl)
theorem cal_first_lost (F : DefAt K mg "first_lost" s_first_lost ["dealings"]) (T : Bt mg) (C_writers_of : Cal P w K mg base "writers_of" ["dealings"] 2 (Ct pDls rWrs)) : Cal P w K mg base "first_lost" ["dealings"] 3 (Ct pDls rLost) := by
  refine cal_data F sc_first_lost (fun ds ⟨a, b, e, _⟩ => by rw [e]; rfl) (fun f cdv A outer s H E hr => ?_)
  have hu := hu_of hr
  refine ⟨_, (pss_cons (ps_set (i := 1) sc_first_lost.nd rfl (.inl rfl) (pe_callC _ C_writers_of hr (pa_cons (pv 0) pa_nil)))
      (pss_cons (ps_for PassesOwn.never rfl (pi_enum (by rfl) T.enumerate_ (pa_cons (pv 0) pa_nil)) (pg_tup rfl (pgs_cons (pg_name (i := 2) sc_first_lost.nd rfl (.inl rfl) (.inl rfl)) (pgs_cons (pg_name (i := 3) sc_first_lost.nd rfl (.inl rfl) (.inl rfl)) pgs_nil))) (pss_cons (ps_set (i := 4) sc_first_lost.nd rfl (.inl rfl) pe_dnewK)
      (pss_one (ps_for PassesOwn.never rfl (pi_enumT (by rfl) T.enumerate_ (pa_cons (pe_ix ix_tup (pv 3) pe_int (fun _ _ => rfl)) pa_nil)) (pg_tup rfl (pgs_cons (pg_name (i := 5) sc_first_lost.nd rfl (.inl rfl) (.inl rfl)) (pgs_cons (pg_name (i := 6) sc_first_lost.nd rfl (.inl rfl) (.inl rfl)) pgs_nil))) (pss_cons (ps_asg (pv 6) (pg_tup rfl (pgs_cons (pg_name (i := 7) sc_first_lost.nd rfl (.inl rfl) (.inl rfl)) (pgs_cons (pg_name (i := 8) sc_first_lost.nd rfl (.inl rfl) (.inl rfl)) (pgs_cons (pg_name (i := 9) sc_first_lost.nd rfl (.inl rfl) (.inl rfl)) pgs_nil)))))
      (pss_one (ps_if (pt_cmpR op_eq (pv 7) pe_str (nomark _)) (pss_one (ps_dput hu (pv 4) (pv 8) (pv 9) rfl)) (pss_one (ps_if (PW.pt (pw_and (pt_cmp (pc_din hu (pv 8) (pv 4)) rfl) (pw_and1 (pt_cmpR op_ne (pe_dget hu (pv 4) (pv 8) (fun _ _ => rfl)) (pv 9) (nomark _))))) (pss_one (ps_ret (pe_tup (pa_cons (pv 2) (pa_cons (pv 5) pa_nil))))) (pss_one (ps_if (PW.pt (pw_and (pt_cmp (pc_dnotin hu (pv 8) (pv 4)) rfl) (pw_and (pt_cmpR op_ne (pv 9) pe_int (nomark _)) (pw_and1 (pt_cmpR op_eq (pe_dget2 hu (pv 1) (pe_tup (pa_cons (pv 8) (pa_cons (pv 9) pa_nil))) (pv 2) ⟨rfl, rfl, rfl, rfl⟩) (pv 2) (nomark _)))))) (pss_one (ps_ret (pe_tup (pa_cons (pv 2) (pa_cons (pv 5) pa_nil))))) pss_nil)))))))))))
      (pss_one (ps_ret pe_non)))), fun ds ⟨dl, vs, e, G⟩ => ?_⟩
  subst e
  have fin : ∀ r, lostOf dl = r → rLost [dealsD dl] (lostD r) := fun r h dl' e' => by
    have e2 := dealsD_inj (List.cons.inj e').1
    subst e2
    rw [h]
  refine sw_seq (sw_asgP (S := [1]) (evp_writers (ea_cons (ev_var rfl) ea_nil) G) fun d' ⟨kw, e, W⟩ => ⟨_, tg_name, ?_⟩)
  subst e
  refine sw_seq (sw_forE [2, 3, 4, 5, 6, 7, 8, 9] dl dealD (wk_enum (ea_cons (ev_var rfl) ea_nil)) (fun i ρ => (∀ k, k < i → lostAt dl k own0 (dsOf dl k) 0 = none) ∧ ρ = [.im (dealsD dl), .im (.dictT kw), .no, .no, .no, .no, .no, .no, .no, .no]) ⟨(fun k hk => nomatch hk), rfl⟩ (fun i d ρ hd inv => ?_) (fun ρ inv => ?_))
  · obtain ⟨prev, rfl⟩ := inv
    have hi := (List.getElem?_eq_some_iff.mp hd).1
    have dok := G.dl d (List.mem_of_getElem? hd)
    have hds := dsOf_get hd
    refine ⟨_, _, tg_tup (tgs_cons tg_name (tgs_cons tg_name tgs_nil)), ?_⟩
    refine sw_seq (sw_asgN en_dictK ?_)
    refine sw_forE [5, 6, 7, 8, 9] d.ds deedD (wk_enumT (ea_cons (ev_op (d := .tuple [.int d.b, .int d.e, .tuple (d.ds.map deedD)]) (ev_var rfl) ev_int (rv_ixT rfl)) ea_nil)) (fun j ρ => ∃ (own : Str → Option Int) (kds : List (Key × D)), (∀ n, getD' kds (.inr n) = (own n).map D.int) ∧ kds.length ≤ j ∧ lostAt dl i own0 d.ds 0 = lostAt dl i own (d.ds.drop j) j ∧
      ρ = [.im (dealsD dl), .im (.dictT kw), .im (.int (i : Int)), .im (dealD d), .mu (.dict kds), .no, .no, .no, .no, .no]) ⟨own0, [], fun _ => rfl, Nat.zero_le _, rfl, rfl⟩ (fun j x ρ hx inv => ?_) (fun ρ inv => ?_)
    · obtain ⟨own, kds, h1, h2, h3, rfl⟩ := inv
      have hj := (List.getElem?_eq_some_iff.mp hx).1
      have hdr : d.ds.drop j = x :: d.ds.drop (j + 1) := by
        rw [← (List.getElem?_eq_some_iff.mp hx).2, List.getElem_cons_drop]
      rw [hdr] at h3
      have lost : lostAt dl i own (x :: d.ds.drop (j + 1)) j = some j → rLost [dealsD dl] (.tuple [.int (i : Int), .int (j : Int)]) := fun h => fin (some (i, j)) (lostOf_some hi prev (by rw [hds, h3, h]))
      refine ⟨_, _, tg_tup (tgs_cons tg_name (tgs_cons tg_name tgs_nil)), ?_⟩
      refine sw_seq (sw_asgT (S := [7] ++ ([8] ++ ([9] ++ []))) (ev_var (d := deedD x) rfl) (tg_tup (tgs_cons tg_name (tgs_cons tg_name (tgs_cons tg_name tgs_nil)))) ?_)
      refine sw_if ((et_test (ev_op (ev_var rfl) ev_str rv_eqS)).cast (verb_write x.w)) (fun c => ?_) (fun c => ?_)
      · rw [la_w c] at h3
        refine sw_dputS rfl (ev_var rfl) (ev_var rfl) (by have := dok.2.2.2.2; omega) ⟨putO own x.n x.v, _, fun n => ?_, Nat.le_trans (putD_len _ _ _) (Nat.succ_le_succ h2), h3, rfl⟩
        rw [getD_put]
        unfold putO
        by_cases q : n = x.n
        · rw [if_pos (by rw [q]), if_pos q]
          rfl
        · rw [if_neg (fun z => q (Sum.inr.inj z)), if_neg q]
          exact h1 n
      · have c : ¬ x.w = true := by rw [c]; decide
        cases q : own x.n with
        | some u =>
          have g : getD' kds (.inr x.n) = some (.int u) := by rw [h1, q]; rfl
          rw [la_s c q] at h3 lost
          refine sw_if (et_mut (i := 4) rfl (et_and (a := true) ((et_val (ev_dinS (ev_var rfl) (ev_var rfl))).cast (by rw [g]; rfl)) (fun _ => et_test (ev_op (ev_dgetS (ev_var rfl) (ev_var rfl) g) (ev_var rfl) rv_neI)))) (fun t => ?_) (fun t => ?_)
          · have ne : ¬ u = x.v := by simpa using t
            exact sw_ret (ev_tup (ea_cons (ev_var rfl) (ea_cons (ev_var rfl) ea_nil)) (by simp)) (lost (if_neg ne))
          · have eq : u = x.v := by simpa using t
            rw [if_pos eq] at h3
            refine sw_if (b := false) ((et_mut (i := 4) rfl (et_and (a := false) (b := true) ((et_val (ev_dniS (ev_var rfl) (ev_var rfl))).cast (by rw [g]; rfl)) (fun z => nomatch z))).cast rfl) (fun z => nomatch z) (fun _ => sw_next ⟨own, kds, h1, Nat.le_succ_of_le h2, h3, rfl⟩)
        | none =>
          have g : getD' kds (.inr x.n) = none := by rw [h1, q]; rfl
          rw [la_n c q] at h3 lost
          have ci : (((wOf dl x.n x.v : Nat) : Int) = (i : Int)) ↔ wOf dl x.n x.v = i := by omega
          have wv : (getD' kw (key2 x.n x.v)).getD (.int (i : Int)) = .int (((if (x.n, x.v) ∈ allW dl then wOf dl x.n x.v else i) : Nat) : Int) := by
            by_cases m : (x.n, x.v) ∈ allW dl
            · rw [if_pos m, W.of G.fit (G.fit.memW.mp m)]
              rfl
            · rw [if_neg m]
              have := W.has G.fit x.n x.v
              rw [decide_eq_false (fun z => m (G.fit.memW.mpr z))] at this
              cases z : getD' kw (key2 x.n x.v) with
              | none => rfl
              | some _ =>
                rw [z] at this
                cases this
          refine sw_if (b := false) ((et_mut (i := 4) rfl (et_and (a := false) (b := true) ((et_val (ev_dinS (ev_var rfl) (ev_var rfl))).cast (by rw [g]; rfl)) (fun z => nomatch z))).cast rfl) (fun z => nomatch z) (fun _ => ?_)
          refine sw_if (et_mut (i := 4) rfl (et_and (a := true) ((et_val (ev_dniS (ev_var rfl) (ev_var rfl))).cast (by rw [g]; rfl)) (fun _ => et_and (et_test (ev_op (ev_var rfl) ev_int rv_neI)) (fun _ => et_test (ev_op ((ev_dget2T (ev_var rfl) (ev_tup (ea_cons (ev_var rfl) (ea_cons (ev_var rfl) ea_nil)) (by simp)) (ev_var rfl)).cast wv) (ev_var rfl) rv_eqI))))) (fun t => ?_) (fun t => ?_)
          · have bd : badR dl i x.n x.v = true := by
              unfold badR
              by_cases m : (x.n, x.v) ∈ allW dl
              · rw [if_pos m] at t ⊢
                simpa [ci] using t
              · rw [if_neg m] at t ⊢
                simpa using t
            exact sw_ret (ev_tup (ea_cons (ev_var rfl) (ea_cons (ev_var rfl) ea_nil)) (by simp)) (lost (if_pos bd))
          · have bd : ¬ badR dl i x.n x.v = true := by
              unfold badR
              by_cases m : (x.n, x.v) ∈ allW dl
              · rw [if_pos m] at t ⊢
                simpa [ci] using t
              · rw [if_neg m] at t ⊢
                simpa using t
            rw [if_neg bd] at h3
            exact sw_next ⟨own, kds, h1, Nat.le_succ_of_le h2, h3, rfl⟩
    · obtain ⟨own, kds, h1, h2, h3, rfl⟩ := inv
      rw [List.drop_length] at h3
      refine ⟨fun k hk => ?_, rfl⟩
      by_cases c : k = i
      · rw [c, hds, h3]
        rfl
      · exact prev k (by omega)
  · obtain ⟨prev, rfl⟩ := inv
    exact sw_ret ev_non (fin none (lostOf_none prev))
theorem ev_lost {ρ : Ro} {ta : TA} {E : XK} {dl : List (Dl Str)} {vs : Vr} (h : EvA ta ρ [dealsD dl]) (G : Good dl vs) : Ev (tCall (Ct pDls rLost) [] E ta) ρ (lostD (lostOf dl)) := ev_call h ⟨dl, vs, rfl, G⟩ fun d' r => r dl rfl
end
end Tk

set_option Elab.async false
set_option linter.all false
set_option maxRecDepth 100000
set_option maxHeartbeats 4000000
/-! D9: an order by the reasons; a ring among what is left. -/
namespace Tk
open PySem PySem.Spec PyProof.Rows L2 Dm
/-- an order as far as it goes -/
structure OrdBy (many : Nat) (rs : List (Rn Str)) (ns : List Nat) : Prop where
  nd : ns.Nodup
  lt : ∀ x ∈ ns, x < many
  ahead : ∀ p x q, ns = p ++ x :: q → ∀ r ∈ rs, r.j = x → r.i ∈ p
/-- .. and no further -/
def OrdEnd (many : Nat) (rs : List (Rn Str)) (ns : List Nat) : Prop := ∀ x, x < many → x ∉ ns → ∃ r ∈ rs, r.j = x ∧ r.i ∉ ns
structure IsRing (rs ring : List (Rn Str)) : Prop where
  ne : ring ≠ []
  mem : ∀ r ∈ ring, r ∈ rs
  nd : (ring.map (·.i)).Nodup
  rot : ring.map (·.j) = (ring.map (·.i)).drop 1 ++ (ring.map (·.i)).take 1
theorem OrdBy.more {many : Nat} {rs : List (Rn Str)} {ns : List Nat} (h : OrdBy many rs ns) {x : Nat} (hx : x < many) (nin : x ∉ ns) (a : ∀ r ∈ rs, r.j = x → r.i ∈ ns) : OrdBy many rs (ns ++ [x]) := by
  refine ⟨List.nodup_append.mpr ⟨h.nd, List.pairwise_singleton _ _, fun y hy z hz => ?_⟩, fun y hy => ?_, fun p y q e r hr hj => ?_⟩
  · rw [List.mem_singleton.mp hz]
    exact fun e => nin (e ▸ hy)
  · rcases List.mem_append.mp hy with z | z
    · exact h.lt y z
    · rw [List.mem_singleton.mp z]
      exact hx
  · rcases List.append_eq_append_iff.mp e with ⟨t, e1, e2⟩ | ⟨t, e1, e2⟩
    · cases t with
      | nil =>
        rw [List.append_nil] at e1
        have e2 : x :: [] = y :: q := e2
        injection e2 with e2 _
        rw [e1]
        exact a r hr (by rw [hj, e2])
      | cons z t =>
        exfalso
        have := congrArg List.length e2
        simp at this
    · cases t with
      | nil =>
        rw [List.append_nil] at e1
        have e2 : y :: q = x :: [] := e2
        injection e2 with e2 _
        rw [← e1]
        exact a r hr (by rw [hj, e2])
      | cons z t =>
        have e2 : y :: q = z :: (t ++ [x]) := e2
        injection e2 with e2 e3
        subst e2
        exact h.ahead p y t e1 r hr hj
theorem fm_filter {α β : Type} (c : α → Prop) [DecidablePred c] (g : α → β) : ∀ l : List α, (l.filterMap fun r => if c r then some (g r) else none) = (l.filter fun r => decide (c r)).map g
  | [] => rfl
  | r :: l => by
    by_cases h : c r
    · rw [List.filterMap_cons, if_pos h, List.filter_cons_of_pos (by simpa using h), List.map_cons, fm_filter c g l]
    · rw [List.filterMap_cons, if_neg h, List.filter_cons_of_neg (by simpa using h), fm_filter c g l]
def nI (ns : List Nat) : List Int := ns.map fun i : Nat => (i : Int)
theorem mem_nI {ns : List Nat} {i : Nat} : (i : Int) ∈ nI ns ↔ i ∈ ns := by
  unfold nI
  rw [List.mem_map]
  constructor
  · rintro ⟨j, hj, e⟩
    have : j = i := by omega
    exact this ▸ hj
  · exact fun h => ⟨i, h, rfl⟩
theorem nI_app (a b : List Nat) : nI (a ++ b) = nI a ++ nI b := List.map_append
theorem nI_len (a : List Nat) : (nI a).length = a.length := List.length_map _
theorem nI_inj {a b : List Nat} (h : nI a = nI b) : a = b := map_inj' (fun x y e => by omega) h
theorem nI_idx : ∀ {ns : List Nat} {i : Nat}, (nI ns).idxOf (i : Int) = ns.idxOf i
  | [], _ => rfl
  | x :: r, i => by
    show ((x : Int) :: nI r).idxOf (i : Int) = (x :: r).idxOf i
    rw [List.idxOf_cons, List.idxOf_cons, nI_idx]
    by_cases c : x = i
    · rw [c]
      simp
    · have q : ¬ (x : Int) = (i : Int) := by omega
      rw [beq_false_of_ne q, beq_false_of_ne c]
section
variable {P : Program} {w : World} {K : PySem.W.Frag} {mg : Str → Option Value} {base : Heap}
/-! ### order_by -/
abbrev s_order_by : Stmt := topS 26
theorem sc_order_by : FnScope ["many", "some", "found", "ready", "number", "ahead", "reason"] ["many", "some"] (defScope s_order_by) := ⟨rfl, rfl, rfl, by decide +kernel, rfl, by decide +kernel, by decide +kernel⟩
def pOb (ds : List D) : Prop := ∃ (many : Nat) (rs : List (Rn Str)), ds = [.int (many : Int), .list (rs.map rsD)] ∧ many ≤ 12 ∧ rs.length ≤ 1000
def rOb (ds : List D) (r : D) : Prop := ∀ (many : Nat) (rs : List (Rn Str)), ds = [.int (many : Int), .list (rs.map rsD)] → ∃ ns, r = .list ((nI ns).map .int) ∧ OrdBy many rs ns ∧ OrdEnd many rs ns
theorem rs_inj {a b : List (Rn Str)} (h : a.map rsD = b.map rsD) : a = b := map_inj' (fun _ _ => rsD_inj) h
theorem cal_order_by (F : DefAt K mg "order_by" s_order_by ["many", "some"]) (T : Bt mg) : Cal P w K mg base "order_by" ["many", "some"] 1 (Ct pOb rOb) := by
  refine cal_data F sc_order_by (fun ds ⟨a, b, e, _⟩ => by rw [e]; rfl) (fun f cdv A outer s H E hr => ?_)
  refine ⟨_, (pss_cons (ps_set (i := 2) sc_order_by.nd rfl (.inr rfl) (pe_lst pa_nil))
      (pss_cons (ps_set (i := 3) sc_order_by.nd rfl (.inl rfl) pe_bl)
      (pss_cons (ps_while PassesOwn.never (pt_val (pv 3)) (pss_cons (ps_set (i := 3) sc_order_by.nd rfl (.inl rfl) pe_bl)
      (pss_one (ps_for PassesOwn.never rfl (pi_range1 rfl T.range_ (pa_cons (pv 0) pa_nil)) (pg_name (i := 4) sc_order_by.nd rfl (.inr rfl) (.inl rfl)) (pss_cons (ps_setLc (i := 5) (own := [("reason", 6)]) (g := gName 6) (by rfl) sc_order_by.nd rfl rfl (sw_true rfl rfl rfl (by decide +kernel)) (pi_list (pv 1)) (blkOk_by (own := [("reason", 6)]) (N := ["many", "some", "found", "ready", "number", "ahead", "reason"]) (sc := defScope s_order_by) (by decide +kernel)) (fun _ _ _ _ _ => (pg_name (i := 6) sc_order_by.nd rfl (.inl rfl) (.inr rfl))) (fun _ _ _ _ _ => pts_one (PW.pt (pw_and (pt_cmpR op_eq (pe_ix (ix_tupK K) (pv 6) pe_int (fun _ _ => rfl)) (pv 4) (nomark _)) (pw_and1 (pt_cmpR (op_notIn_seqK K) (pe_ix (ix_tupK K) (pv 6) pe_int (fun _ _ => rfl)) (pv 2) (by rfl)))))) (fun _ _ _ _ _ => (pe_ix (ix_tupK K) (pv 6) pe_int (fun _ _ => rfl))))
      (pss_one (ps_if (PW.pt (pw_and (pt_cmpR op_notIn_seq (pv 4) (pv 2) (by rfl)) (pw_and (pt_cmpR (op_eqD hr.units) (pv 5) (pe_lst pa_nil) (nomark _)) (pw_and1 (pt_not (pt_val (pv 3))))))) (pss_cons (ps_expr (pe_bm PySem.F.plainAttrs_list PySem.F.slot_list_append PySem.F.type_list_append mt_append (pv 2) (pa_cons (pv 4) pa_nil)))
      (pss_one (ps_set (i := 3) sc_order_by.nd rfl (.inl rfl) pe_bl))) pss_nil)))))))
      (pss_one (ps_ret (pv 2)))))), fun ds ⟨many, rs, e, hm, hl⟩ => ?_⟩
  subst e
  refine sw_seq (sw_asgN (en_lst ea_nil (by simp)) (sw_seq (sw_asg ev_bl ?_)))
  refine sw_seq (sw_while [4, 5, 6] (fun m ρ => ∃ (ns : List Nat) (b : Bool), OrdBy many rs ns ∧ (b = true → m = many - ns.length + 1) ∧ (b = false → m = 0 ∧ OrdEnd many rs ns) ∧ ns.length ≤ many ∧
    ρ = [.im (.int (many : Int)), .im (.list (rs.map rsD)), .mu (.list ((nI ns).map .int)), .im (.bool b), .no, .no, .no]) (many + 1) ⟨[], true, ⟨List.nodup_nil, (fun x h => nomatch h), fun p x q e => by
      cases p <;> cases e⟩, fun _ => rfl, (fun h => nomatch h), Nat.zero_le _, rfl⟩ (fun m ρ inv => ?_))
  obtain ⟨ns, b, ob, m1, m2, hlen, rfl⟩ := inv
  refine ⟨b, et_val (ev_var rfl), fun hb => ?_, fun hb => ?_⟩
  · -- one turn
    refine sw_seq (sw_asg ev_bl ?_)
    refine sw_forN [4, 5, 6] many (wk_range (ea_cons (ev_var rfl) ea_nil) (by omega)) (fun i ρ => ∃ (ns' : List Nat) (b' : Bool), (b' = false → ns' = ns ∧ ∀ x, x < i → x ∉ ns → ∃ r ∈ rs, r.j = x ∧ r.i ∉ ns) ∧ (b' = true → OrdBy many rs ns' ∧ ns'.length = ns.length + 1) ∧
      ρ = [.im (.int (many : Int)), .im (.list (rs.map rsD)), .mu (.list ((nI ns').map .int)), .im (.bool b'), .no, .no, .no]) ⟨ns, false, fun _ => ⟨rfl, fun x h => absurd h (Nat.not_lt_zero _)⟩, (fun h => nomatch h), rfl⟩ (fun i ρ hi inv => ?_) (fun ρ inv => ?_)
    · obtain ⟨ns', b', h1, h2, rfl⟩ := inv
      refine ⟨_, _, tg_name, ?_⟩
      have hl' : ns'.length ≤ 13 := by
        cases b' with
        | true =>
          have := (h2 rfl).2
          omega
        | false =>
          rw [(h1 rfl).1]
          omega
      -- what is ahead of it and not found
      have eqL : D.list (rs.filterMap fun r => if r.j = i ∧ r.i ∉ ns' then some (.int (r.i : Int)) else none) = .list ((nI ((rs.filter fun r => decide (r.j = i ∧ r.i ∉ ns')).map (·.i))).map .int) := by
        rw [fm_filter (fun r : Rn Str => r.j = i ∧ r.i ∉ ns') (fun r => D.int (r.i : Int)) rs]
        unfold nI
        rw [List.map_map, List.map_map]
        rfl
      refine sw_seq (sw_asg (Ev.cast (EvN.ev (en_mut (i := 2) rfl (en_lc rs rsD (wk_list (ev_var rfl)) (fun r => if r.j = i ∧ r.i ∉ ns' then some (.int (r.i : Int)) else none) (by omega) (fun n r hr => ?_)) (fun d hd => ?_))) eqL) ?_)
      · refine ⟨_, _, tg_name, by decide, ?_, fun e he => ?_⟩
        · refine EvT.cast (et_and (et_test (ev_op (ev_op (d := rsD r) (ev_var rfl) ev_int (rv_ixT rfl)) (ev_var rfl) rv_eqI)) (fun _ => et_test (ev_op (ev_op (d := rsD r) (ev_var rfl) ev_int (rv_ixT rfl)) (ev_var rfl) rv_niL))) ?_
          have c1 : ((r.j : Int) = (i : Int)) ↔ r.j = i := by omega
          by_cases c : r.j = i ∧ r.i ∉ ns'
          · rw [if_pos c]
            simp [c1, mem_nI, c.1, c.2]
          · rw [if_neg c]
            simp only [c1, mem_nI]
            by_cases c2 : r.j = i
            · have c3 : r.i ∈ ns' := Classical.not_not.mp fun z => c ⟨c2, z⟩
              simp [c3]
            · simp [c2]
        · by_cases c : r.j = i ∧ r.i ∉ ns'
          · rw [if_pos c] at he
            cases he
            exact ev_op (d := rsD r) (ev_var rfl) ev_int (rv_ixT rfl)
          · rw [if_neg c] at he
            cases he
      · obtain ⟨r, _, e⟩ := List.mem_filterMap.mp hd
        by_cases c : r.j = i ∧ r.i ∉ ns'
        · rw [if_pos c] at e
          cases e
          rfl
        · rw [if_neg c] at e
          cases e
      generalize hah : (rs.filter fun r => decide (r.j = i ∧ r.i ∉ ns')).map (·.i) = ahead
      refine sw_if (et_and (et_test (ev_mut (i := 2) rfl (ev_op (ev_var rfl) (ev_var rfl) rv_niL))) (fun _ => et_and (et_test (ev_op (ev_var rfl) (EvN.ev (en_lst ea_nil (by simp))) (rv_eqD (ok_ints (nI ahead)) (ok_ints [])))) (fun _ => et_not (et_val (ev_var rfl))))) (fun c => ?_) (fun c => sw_next ?_)
      · rw [show (D.list []) = D.list (List.map D.int []) from rfl, eqvD_ints] at c
        simp only [Bool.and_eq_true, Bool.not_eq_true', decide_eq_true_eq, decide_eq_false_iff_not, mem_nI] at c
        obtain ⟨c1, c2, c3⟩ := c
        subst c3
        obtain ⟨e, prev⟩ := h1 rfl
        subst e
        have an : ahead = [] := by
          unfold nI at c2
          exact List.map_eq_nil_iff.mp c2
        rw [an] at hah
        have all : ∀ r ∈ rs, r.j = i → r.i ∈ ns' := fun r hr hj => Classical.not_not.mp fun z => by
          have : r ∈ rs.filter fun r => decide (r.j = i ∧ r.i ∉ ns') := List.mem_filter.mpr ⟨hr, decide_eq_true ⟨hj, z⟩⟩
          have h0 := List.map_eq_nil_iff.mp hah
          rw [h0] at this
          cases this
        refine sw_seq (sw_append rfl (ev_var rfl) (by rw [List.length_map, nI_len]; omega) (sw_asg ev_bl ⟨ns' ++ [i], true, (fun h => nomatch h), fun _ => ⟨ob.more hi c1 all, by rw [List.length_append]; rfl⟩, ?_⟩))
        rw [nI_app, List.map_append]
        rfl
      · refine ⟨ns', b', fun hb' => ?_, h2, rfl⟩
        obtain ⟨e, prev⟩ := h1 hb'
        refine ⟨e, fun x hx nin => ?_⟩
        by_cases cx : x < i
        · exact prev x cx nin
        · have ex : x = i := by omega
          subst ex
          subst e
          subst hb'
          rw [show (D.list []) = D.list (List.map D.int []) from rfl, eqvD_ints] at c
          cases hc : ahead with
          | nil =>
            rw [hc] at c
            exfalso
            have n1 : ¬ ((x : Int) ∈ nI ns') := fun z => nin (mem_nI.mp z)
            simp [n1, show nI [] = [] from rfl] at c
          | cons y t =>
            rw [hc] at hah
            have : y ∈ (rs.filter fun r => decide (r.j = x ∧ r.i ∉ ns')).map (·.i) := by rw [hah]; exact .head _
            obtain ⟨r, hr, _⟩ := List.mem_map.mp this
            obtain ⟨r1, r2⟩ := List.mem_filter.mp hr
            exact ⟨r, r1, of_decide_eq_true r2⟩
    · obtain ⟨ns', b', h1, h2, rfl⟩ := inv
      have mm := m1 hb
      cases b' with
      | true =>
        obtain ⟨o, l⟩ := h2 rfl
        have lm : ns'.length ≤ many := by
          have := nat_nodup_len ns' (List.range many) o.nd fun x hx => List.mem_range.mpr (o.lt x hx)
          rwa [List.length_range] at this
        exact ⟨many - ns'.length + 1, by omega, ns', true, o, fun _ => rfl, (fun h => nomatch h), lm, rfl⟩
      | false =>
        obtain ⟨e, fin⟩ := h1 rfl
        subst e
        exact ⟨0, by omega, ns', false, ob, (fun h => nomatch h), fun _ => ⟨rfl, fin⟩, hlen, rfl⟩
  · obtain ⟨_, oe⟩ := m2 hb
    refine sw_retM (i := 2) rfl fun many' rs' e' => ?_
    injection e' with e1 e'
    injection e' with e2 _
    injection e1 with e1
    injection e2 with e2
    have e1 : many = many' := by omega
    have e2 := rs_inj e2
    subst e1 e2
    exact ⟨ns, rfl, ob, oe⟩
end
end Tk

set_option Elab.async false
set_option linter.all false
set_option maxRecDepth 100000
set_option maxHeartbeats 4000000
/-! D10: a ring among what is left. -/
namespace Tk
open PySem PySem.Spec PyProof.Rows L2 Dm
/-- the way back so far: who was met, by which reasons, who is next -/
structure Back (rs : List (Rn Str)) (l : List Nat) (xs : List Nat) (bs : List (Rn Str)) (x : Nat) : Prop where
  nd : xs.Nodup
  sub : ∀ y ∈ xs, y ∈ l
  at_ : x ∈ l
  mem : ∀ r ∈ bs, r ∈ rs
  js : bs.map (·.j) = xs
  is : bs.map (·.i) = (xs ++ [x]).drop 1
theorem Back.more {rs : List (Rn Str)} {l xs : List Nat} {bs : List (Rn Str)} {x : Nat} (h : Back rs l xs bs x) (nin : x ∉ xs) {r : Rn Str} (hr : r ∈ rs) (hj : r.j = x) (hi : r.i ∈ l) : Back rs l (xs ++ [x]) (bs ++ [r]) r.i := by
  refine ⟨List.nodup_append.mpr ⟨h.nd, List.pairwise_singleton _ _, fun y hy z hz e => nin ?_⟩, fun y hy => ?_, hi, fun r' hr' => ?_, ?_, ?_⟩
  · rw [← List.mem_singleton.mp hz, ← e]
    exact hy
  · rcases List.mem_append.mp hy with z | z
    · exact h.sub y z
    · rw [List.mem_singleton.mp z]
      exact h.at_
  · rcases List.mem_append.mp hr' with z | z
    · exact h.mem r' z
    · rw [List.mem_singleton.mp z]
      exact hr
  · rw [List.map_append, h.js, List.map_cons, hj]
    rfl
  · rw [List.map_append, h.is]
    cases xs with
    | nil => rfl
    | cons y t => rfl
theorem Back.ring {rs : List (Rn Str)} {l xs : List Nat} {bs : List (Rn Str)} {x : Nat} (h : Back rs l xs bs x) (hx : x ∈ xs) : IsRing rs (bs.drop (xs.idxOf x)).reverse := by
  generalize hm : xs.idxOf x = m
  have hlt : m < xs.length := hm ▸ List.idxOf_lt_length_of_mem hx
  have hget : xs[m]? = some x := by
    rw [List.getElem?_eq_getElem hlt]
    congr 1
    subst hm
    exact List.getElem_idxOf hlt
  have hdrop : xs.drop m = x :: xs.drop (m + 1) := by
    rw [← (List.getElem?_eq_some_iff.mp hget).2, List.getElem_cons_drop]
  generalize hr : xs.drop (m + 1) = rest at hdrop
  have ej : (bs.drop m).map (·.j) = x :: rest := by rw [List.map_drop, h.js, hdrop]
  have ei : (bs.drop m).map (·.i) = rest ++ [x] := by
    rw [List.map_drop, h.is, List.drop_drop, List.drop_append_of_le_length (by omega), Nat.add_comm, hr]
  have e1 : ((bs.drop m).reverse.map (·.i)) = x :: rest.reverse := by
    rw [List.map_reverse, ei, List.reverse_append]
    rfl
  have e2 : ((bs.drop m).reverse.map (·.j)) = rest.reverse ++ [x] := by
    rw [List.map_reverse, ej, List.reverse_cons]
  refine ⟨fun z => ?_, fun r hr' => h.mem r (List.mem_of_mem_drop (List.mem_reverse.mp hr')), ?_, ?_⟩
  · rw [z] at e1
    cases e1
  · rw [e1]
    have nd : (x :: rest).Nodup := by
      rw [← hdrop]
      exact h.nd.sublist (List.drop_sublist _ _)
    obtain ⟨n1, n2⟩ := List.nodup_cons.mp nd
    exact List.nodup_cons.mpr ⟨fun z => n1 (List.mem_reverse.mp z), (List.reverse_perm _).nodup_iff.mpr n2⟩
  · rw [e1, e2]
    rfl
section
variable {P : Program} {w : World} {K : PySem.W.Frag} {mg : Str → Option Value} {base : Heap}
abbrev s_ring_among : Stmt := topS 27
theorem sc_ring_among : FnScope ["left", "some", "back", "number", "met", "reason"] ["left", "some"] (defScope s_ring_among) := ⟨rfl, rfl, rfl, by decide +kernel, rfl, by decide +kernel, by decide +kernel⟩
def pRg (ds : List D) : Prop := ∃ (l : List Nat) (rs : List (Rn Str)), ds = [.list ((nI l).map .int), .list (rs.map rsD)] ∧ l ≠ [] ∧ l.length ≤ 12 ∧ rs.length ≤ 1000 ∧ ∀ x ∈ l, ∃ r ∈ rs, r.j = x ∧ r.i ∈ l
def rRg (ds : List D) (r : D) : Prop := ∀ (l : List Nat) (rs : List (Rn Str)), ds = [.list ((nI l).map .int), .list (rs.map rsD)] → ∃ ring, r = .list (ring.map rsD) ∧ IsRing rs ring ∧ ring.length ≤ 12
theorem cal_ring_among (F : DefAt K mg "ring_among" s_ring_among ["left", "some"]) (T : Bt mg) : Cal P w K mg base "ring_among" ["left", "some"] 1 (Ct pRg rRg) := by
  refine cal_data F sc_ring_among (fun ds ⟨a, b, e, _⟩ => by rw [e]; rfl) (fun f cdv A outer s H E hr => ?_)
  refine ⟨_, (pss_cons (ps_set (i := 2) sc_ring_among.nd rfl (.inl rfl) (pe_lst pa_nil))
      (pss_cons (ps_set (i := 3) sc_ring_among.nd rfl (.inr rfl) (pe_ix ix_list (pv 0) pe_int (fun _ _ => rfl)))
      (pss_cons (ps_set (i := 4) sc_ring_among.nd rfl (.inl rfl) (pe_lst pa_nil))
      (pss_cons (ps_while PassesOwn.never (pt_cmpR op_notIn_seq (pv 3) (pv 4) (by rfl)) (pss_cons (ps_expr (pe_bm PySem.F.plainAttrs_list PySem.F.slot_list_append PySem.F.type_list_append mt_append (pv 4) (pa_cons (pv 3) pa_nil)))
      (pss_cons (ps_expr (pe_bm PySem.F.plainAttrs_list PySem.F.slot_list_append PySem.F.type_list_append mt_append (pv 2) (pa_cons (pe_ix ix_list (pe_lc (own := [("reason", 5)]) (g := gName 5) (by rfl) sc_ring_among.nd (pi_list (pv 1)) (blkOk_by (own := [("reason", 5)]) (N := ["left", "some", "back", "number", "met", "reason"]) (sc := defScope s_ring_among) (by decide +kernel)) (fun _ _ _ _ _ => (pg_name (i := 5) sc_ring_among.nd rfl (.inl rfl) (.inr rfl))) (fun _ _ _ _ _ => pts_one (PW.pt (pw_and (pt_cmpR op_eq (pe_ix (ix_tupK K) (pv 5) pe_int (fun _ _ => rfl)) (pv 3) (nomark _)) (pw_and1 (pt_cmpR (op_in_seqK K) (pe_ix (ix_tupK K) (pv 5) pe_int (fun _ _ => rfl)) (pv 0) (by rfl)))))) (fun _ _ _ _ _ => (pv 5))) pe_int (fun _ _ => rfl)) pa_nil)))
      (pss_one (ps_set (i := 3) sc_ring_among.nd rfl (.inr rfl) (pe_ix ix_tup (pe_ix ix_list (pv 2) (pe_un un_neg pe_int) (fun _ _ => rfl)) pe_int (fun _ _ => rfl)))))))
      (pss_one (ps_ret (pe_listRev rfl (by rfl) T.list_ (by rfl) T.reversed_ (pe_slice sl_list (pv 2) (po_some (pe_bm PySem.F.plainAttrs_list PySem.F.slot_list_index PySem.F.type_list_index mt_index (pv 4) (pa_cons (pv 3) pa_nil))) po_none)))))))), fun ds ⟨l, rs, e, hne, hl, hrs, back⟩ => ?_⟩
  subst e
  obtain ⟨x0, l0, rfl⟩ := List.exists_cons_of_ne_nil hne
  generalize hL : x0 :: l0 = l at *
  have x0in : x0 ∈ l := hL ▸ List.mem_cons_self
  refine sw_seq (sw_asgN (en_lst ea_nil (by simp)) ?_)
  refine sw_seq (sw_asg (d := .int (x0 : Int)) (ev_op (ev_var rfl) ev_int (rv_ixL (atI_nat (j := 0) (by subst hL; rfl)))) ?_)
  refine sw_seq (sw_asgN (en_lst ea_nil (by simp)) ?_)
  refine sw_seq (sw_while [5] (fun m ρ => ∃ (xs : List Nat) (bs : List (Rn Str)) (x : Nat), Back rs l xs bs x ∧ m = 12 - xs.length ∧ xs.length ≤ 12 ∧
    ρ = [.im (.list ((nI l).map .int)), .im (.list (rs.map rsD)), .mu (.list (bs.map rsD)), .im (.int (x : Int)), .mu (.list ((nI xs).map .int)), .no]) 12 ⟨[], [], x0, ⟨List.nodup_nil, (fun y h => nomatch h), x0in, (fun r h => nomatch h), rfl, rfl⟩, rfl, by decide, rfl⟩ (fun m ρ inv => ?_))
  obtain ⟨xs, bs, x, bk, hm, hx12, rfl⟩ := inv
  refine ⟨!decide (x ∈ xs), EvT.cast (et_test (ev_mut (i := 4) rfl (ev_op (ev_var rfl) (ev_var rfl) rv_niL))) (by rw [decide_eq_decide.mpr mem_nI]), fun hb => ?_, fun hb => ?_⟩
  · have nin : x ∉ xs := by simpa using hb
    have lenlt : xs.length < l.length := by
      have := nat_nodup_len (x :: xs) l (List.nodup_cons.mpr ⟨nin, bk.nd⟩) fun y hy => by
        rcases List.mem_cons.mp hy with z | z
        · exact z ▸ bk.at_
        · exact bk.sub y z
      rwa [List.length_cons] at this
    have blen : bs.length = xs.length := by rw [← bk.js, List.length_map]
    -- the reasons behind x within l
    obtain ⟨r0, f1, f2⟩ : ∃ r0 t, rs.filter (fun r => decide (r.j = x ∧ r.i ∈ l)) = r0 :: t := by
      obtain ⟨r, h1, h2, h3⟩ := back x bk.at_
      have : r ∈ rs.filter fun r => decide (r.j = x ∧ r.i ∈ l) := List.mem_filter.mpr ⟨h1, decide_eq_true ⟨h2, h3⟩⟩
      cases h : rs.filter fun r => decide (r.j = x ∧ r.i ∈ l) with
      | nil =>
        rw [h] at this
        cases this
      | cons a t => exact ⟨a, t, rfl⟩
    have r0m : r0 ∈ rs ∧ r0.j = x ∧ r0.i ∈ l := by
      have : r0 ∈ rs.filter fun r => decide (r.j = x ∧ r.i ∈ l) := by rw [f2]; exact .head _
      obtain ⟨a, b⟩ := List.mem_filter.mp this
      exact ⟨a, of_decide_eq_true b⟩
    refine sw_seq (sw_append rfl (ev_var rfl) (by rw [List.length_map, nI_len]; omega) ?_)
    refine sw_seq (sw_append (d := rsD r0) rfl (ev_op (Ev.cast (EvN.ev (en_lc rs rsD (wk_list (ev_var rfl)) (fun r => if r.j = x ∧ r.i ∈ l then some (rsD r) else none) (by omega) (fun n r hr => ?_))) (by rw [fm_filter (fun r : Rn Str => r.j = x ∧ r.i ∈ l) rsD rs, f2])) ev_int (rv_ixL (atI_nat (j := 0) rfl))) (by rw [List.length_map]; omega) ?_)
    · refine ⟨_, _, tg_name, by decide, ?_, fun e he => ?_⟩
      · refine EvT.cast (et_and (et_test (ev_op (ev_op (d := rsD r) (ev_var rfl) ev_int (rv_ixT rfl)) (ev_var rfl) rv_eqI)) (fun _ => et_test (ev_op (ev_op (d := rsD r) (ev_var rfl) ev_int (rv_ixT rfl)) (ev_var rfl) rv_inL))) ?_
        have c1 : ((r.j : Int) = (x : Int)) ↔ r.j = x := by omega
        by_cases c : r.j = x ∧ r.i ∈ l
        · rw [if_pos c]
          simp [c1, mem_nI, c.1, c.2]
        · rw [if_neg c]
          simp only [c1, mem_nI]
          by_cases c2 : r.j = x
          · have c3 : r.i ∉ l := fun z => c ⟨c2, z⟩
            simp [c3]
          · simp [c2]
      · by_cases c : r.j = x ∧ r.i ∈ l
        · rw [if_pos c] at he
          cases he
          exact ev_var rfl
        · rw [if_neg c] at he
          cases he
    · refine sw_asg (d := .int (r0.i : Int)) (ev_mut (i := 2) rfl (ev_op (d := rsD r0) (ev_op (ev_var rfl) (ev_un (f := .int (-1)) ev_int fun _ _ => rfl) (rv_ixL ?_)) ev_int (rv_ixT rfl))) ⟨12 - (xs.length + 1), by omega, xs ++ [x], bs ++ [r0], r0.i, bk.more nin r0m.1 r0m.2.1 r0m.2.2, by rw [List.length_append]; rfl, by rw [List.length_append]; show xs.length + 1 ≤ 12; omega, ?_⟩
      · exact atI_last _ _
      · rw [nI_app, List.map_append, List.map_append]
        rfl
  · have hin : x ∈ xs := by simpa using hb
    have blen : bs.length = xs.length := by rw [← bk.js, List.length_map]
    have hlt : xs.idxOf x < xs.length := List.idxOf_lt_length_of_mem hin
    refine sw_freeze (i := 2) rfl (sw_freeze (i := 4) rfl ?_)
    refine sw_ret (EvN.ev (en_listRev (ds := (bs.drop (xs.idxOf x)).map rsD) (Ev.cast (EvN.ev (en_slL (ev_var rfl) (eo_some (i := ((xs.idxOf x : Nat) : Int)) (Ev.cast (ev_index (ev_var rfl) (ev_var rfl) (mem_nI.mpr hin)) (by rw [nI_idx]))) eo_none)) (by rw [cut_drop, map_drop'])))) fun l' rs' e' => ?_
    injection e' with e1 e'
    injection e' with e2 _
    injection e1 with e1
    injection e2 with e2
    have e1 := nI_inj (int_inj' e1)
    have e2 := rs_inj e2
    subst e1 e2
    exact ⟨(bs.drop (xs.idxOf x)).reverse, by rw [List.map_reverse], bk.ring hin, by rw [List.length_reverse, List.length_drop]; omega⟩
end
end Tk

set_option Elab.async false
set_option linter.all false
set_option maxRecDepth 100000
set_option maxHeartbeats 4000000
/-! D11: the reasons' bounds; the verdict that is told. -/
namespace Tk
open PySem PySem.Spec PyProof.Rows L2 Dm
theorem ra_mem {n : Str} {v : Int} : ∀ {l : List (Dd Str)} {own : Str → Option Int}, (n, v) ∈ ra own l → ∃ x ∈ l, x.n = n ∧ x.v = v
  | [], _, h => nomatch h
  | x :: l, own, h => by
    by_cases c : x.w = true
    · rw [ra_w c] at h
      obtain ⟨y, a, b⟩ := ra_mem h
      exact ⟨y, .tail _ a, b⟩
    · cases e : own x.n with
      | some u =>
        rw [ra_s c e] at h
        obtain ⟨y, a, b⟩ := ra_mem h
        exact ⟨y, .tail _ a, b⟩
      | none =>
        rw [ra_n c e] at h
        rcases List.mem_cons.mp h with h | h
        · cases h
          exact ⟨x, .head _, rfl, rfl⟩
        · obtain ⟨y, a, b⟩ := ra_mem h
          exact ⟨y, .tail _ a, b⟩
/-- a reason's ends are dealings, its name is a name -/
structure RsOk (n : Nat) (r : Rn Str) : Prop where
  i : r.i < n
  j : r.j < n
  nm : ∀ z, r.n = some z → NameOk z
theorem allL_ok {dl : List (Dl Str)} {vs : Vr} {timed : Bool} (G : Good dl vs) {r : Rn Str} (h : r ∈ allL dl vs timed) : RsOk dl.length r := by
  unfold allL at h
  have wl : ∀ {n : Str} {v : Int}, v ∈ vlOf vs n → wOf dl n v < dl.length := fun hv => (wOf_wr G.fit hv).1
  rcases List.mem_append.mp h with h | h
  · rcases List.mem_append.mp h with h | h
    · obtain ⟨p, hp, h⟩ := List.mem_flatMap.mp h
      obtain ⟨q, hq, rfl⟩ := List.mem_map.mp h
      have hv := (vlOf_mem G.kn hp).2
      obtain ⟨k, hk⟩ := List.getElem?_of_mem hq
      have m := zip_next hk
      exact ⟨wl (hv ▸ m.1), wl (hv ▸ m.2), fun z hz => by cases hz; exact (G.nm p hp).1⟩
    · obtain ⟨i, hi, h⟩ := List.mem_flatMap.mp h
      have hi := List.mem_range.mp hi
      obtain ⟨q, hq, h⟩ := List.mem_flatMap.mp h
      have hn : NameOk q.1 := by
        obtain ⟨x, hx, e, _⟩ := ra_mem (show (q.1, q.2) ∈ _ from hq)
        have hd : dl[i]? = some dl[i] := List.getElem?_eq_getElem hi
        rw [dsOf_get hd] at hx
        rw [← e]
        exact ((G.dl _ (List.mem_of_getElem? hd)).2.2.2.1 x hx).1
      unfold readL at h
      rcases List.mem_append.mp h with h | h
      · unfold seenL at h
        by_cases c : q.2 ∈ vlOf vs q.1
        · rw [if_pos c] at h
          rw [List.mem_singleton.mp h]
          exact ⟨wl c, hi, fun z hz => by cases hz; exact hn⟩
        · rw [if_neg c] at h
          cases h
      · obtain ⟨y, hy, rfl⟩ := List.mem_map.mp h
        exact ⟨hi, wl (nextL_mem hy), fun z hz => by cases hz; exact hn⟩
  · by_cases c : timed = true
    · rw [if_pos c] at h
      obtain ⟨i, hi, h⟩ := List.mem_flatMap.mp h
      obtain ⟨j, hj, h⟩ := List.mem_filterMap.mp h
      by_cases c2 : (beOf dl i).2 < (beOf dl j).1
      · rw [if_pos c2] at h
        cases h
        exact ⟨List.mem_range.mp hi, List.mem_range.mp hj, fun z hz => by cases hz⟩
      · rw [if_neg c2] at h
        cases h
    · rw [if_neg c] at h
      cases h
theorem Known.ok {dl : List (Dl Str)} {vs : Vr} {timed : Bool} {rs : List (Rn Str)} (G : Good dl vs) (k : Known dl vs timed rs) : ∀ r ∈ rs, RsOk dl.length r := fun r hr => allL_ok G ((k.2 r).mp hr).1
theorem kd_ok (k : Kd) : PyData.strOk (kdS k) = true := by cases k <;> decide +kernel
theorem rs_lay {n : Nat} {r : Rn Str} (h : RsOk n r) : (toPy (rsD r)).canLay0 = true ∧ (toPy (rsD r)).depth ≤ 2 := by
  have : (toPy (optD r.n)).canLay0 = true ∧ (toPy (optD r.n)).depth = 0 := by
    cases c : r.n with
    | none => exact ⟨rfl, rfl⟩
    | some z => exact ⟨name_ok (h.nm z c), rfl⟩
  refine ⟨?_, ?_⟩
  · show (true && (true && (PyData.strOk (kdS r.k) && ((toPy (optD r.n)).canLay0 && true)))) = true
    rw [kd_ok, this.1]
    rfl
  · show max 0 (max 0 (max 0 (max (toPy (optD r.n)).depth 0))) + 1 ≤ 2
    rw [this.2]
    decide
theorem ok_rs {n : Nat} {r : Rn Str} (h : RsOk n r) : okD (rsD r) = true := by
  have := rs_lay h
  unfold okD SeqAt.shaped
  rw [Bool.and_eq_true, decide_eq_true_eq]
  exact ⟨this.1, by omega⟩
theorem ok_rss {n : Nat} {rs : List (Rn Str)} (h : ∀ r ∈ rs, RsOk n r) : okD (.list (rs.map rsD)) = true := ok_list fun r hr => rs_lay (h r hr)
theorem eqv_rs (r : Rn Str) : PyData.eqv (toPy (rsD r)) (toPy (rsD r)) = true := by
  show ((((r.i : Int) == (r.i : Int)) && (((r.j : Int) == (r.j : Int)) && ((kdS r.k == kdS r.k) && (PyData.eqv (toPy (optD r.n)) (toPy (optD r.n)) && true)))) : Bool) = true
  have : PyData.eqv (toPy (optD r.n)) (toPy (optD r.n)) = true := by
    cases r.n with
    | none => rfl
    | some z => exact beq_self_eq_true z
  rw [this]
  simp
theorem any_rs {rs : List (Rn Str)} {r : Rn Str} (h : r ∈ rs) : ((toPys (rs.map rsD)).any fun z => PyData.eqv z (toPy (rsD r))) = true := by
  rw [toPys_map, List.any_map]
  exact List.any_eq_true.mpr ⟨r, h, eqv_rs r⟩
section
variable {P : Program} {w : World} {K : PySem.W.Frag} {mg : Str → Option Value} {base : Heap}
theorem ev_lenSet {ρ : Ro} {te : TE} {ns : List Int} (h : Ev te ρ (.list (ns.map .int))) (hl : ns.length < 64) (hn : ns.Nodup) : Ev (tLenSetI K te) ρ (.int (ns.length : Int)) := fun B F H σ en Q k => h B F H σ en _ fun v F1 H1 g1 r1 => by
  obtain ⟨a, xs, rfl, fa, ha, r⟩ := r1
  have e := r.ints
  subst e
  exact ⟨a, ns, rfl, SqL.of ha, hl, hn, k _ F1 H1 g1 rfl⟩
/-! ### judged_dealings -/
abbrev s_judged_dealings : Stmt := topS 28
theorem sc_judged_dealings : FnScope ["dealings", "versions", "timed", "lost", "some", "numbers", "number"] ["dealings", "versions", "timed"] (defScope s_judged_dealings) := ⟨rfl, rfl, rfl, by decide +kernel, rfl, by decide +kernel, by decide +kernel⟩
def ordD (ns : List Nat) : D := .tuple [.str "order", .list ((nI ns).map .int)]
def ringD (ring : List (Rn Str)) : D := .tuple [.str "ring", .list (ring.map rsD)]
def losD (p : Nat × Nat) : D := .tuple [.str "lost", .int (p.1 : Int), .int (p.2 : Int)]
/-- what is told of the dealings -/
inductive Told (dl : List (Dl Str)) (vs : Vr) (timed : Bool) : D → Prop
  | lost {p : Nat × Nat} : lostOf dl = some p → Told dl vs timed (losD p)
  | order {rs : List (Rn Str)} {ns : List Nat} : lostOf dl = none → Known dl vs timed rs → OrdBy dl.length rs ns → OrdEnd dl.length rs ns → ns.length = dl.length → Told dl vs timed (ordD ns)
  | ring {rs : List (Rn Str)} {ns : List Nat} {ring : List (Rn Str)} : lostOf dl = none → Known dl vs timed rs → OrdBy dl.length rs ns → OrdEnd dl.length rs ns → ns.length ≠ dl.length → IsRing rs ring → ring.length ≤ 12 → Told dl vs timed (ringD ring)
def rJd (ds : List D) (r : D) : Prop := ∀ (dl : List (Dl Str)) (vs : Vr) (timed : Bool), ds = [dealsD dl, versD vs, .bool timed] → Told dl vs timed r
theorem all_inj {dl dl2 : List (Dl Str)} {vs vs2 : Vr} {t t2 : Bool} {r : List D} (e : [dealsD dl, versD vs, .bool t] ++ r = [dealsD dl2, versD vs2, .bool t2] ++ r) : dl = dl2 ∧ vs = vs2 ∧ t = t2 := by
  injection e with e1 e
  injection e with e2 e
  injection e with e3 e
  injection e3 with e3
  exact ⟨dealsD_inj e1, versD_inj e2, e3⟩
theorem cal_judged_dealings (F : DefAt K mg "judged_dealings" s_judged_dealings ["dealings", "versions", "timed"]) (T : Bt mg) (C_need_dealings : Cal P w K mg base "need_dealings" ["dealings", "versions"] 5 (Ct pGood rNone)) (C_first_lost : Cal P w K mg base "first_lost" ["dealings"] 3 (Ct pDls rLost))
    (C_all_reasons : Cal P w K mg base "all_reasons" ["dealings", "versions", "timed"] 3 (Ct pAll rAll)) (C_order_by : Cal P w K mg base "order_by" ["many", "some"] 1 (Ct pOb rOb)) (C_ring_among : Cal P w K mg base "ring_among" ["left", "some"] 1 (Ct pRg rRg)) :
    Cal P w K mg base "judged_dealings" ["dealings", "versions", "timed"] 6 (Ct pAll rJd) := by
  refine cal_data F sc_judged_dealings (fun ds ⟨a, b, c, e, _⟩ => by rw [e]; rfl) (fun f cdv A outer s H E hr => ?_)
  refine ⟨_, (pss_cons (ps_expr (pe_callC _ C_need_dealings hr (pa_cons (pv 0) (pa_cons (pv 1) pa_nil))))
      (pss_cons (ps_set (i := 3) sc_judged_dealings.nd rfl (.inl rfl) (pe_callC _ C_first_lost hr (pa_cons (pv 0) pa_nil)))
      (pss_cons (ps_if (pt_cmpR op_notN (pv 3) pe_non (nomark _)) (pss_one (ps_ret (pe_tup (pa_cons pe_str (pa_cons (pe_ix ix_tup (pv 3) pe_int (fun _ _ => rfl)) (pa_cons (pe_ix ix_tup (pv 3) pe_int (fun _ _ => rfl)) pa_nil)))))) pss_nil)
      (pss_cons (ps_set (i := 4) sc_judged_dealings.nd rfl (.inl rfl) (pe_callC _ C_all_reasons hr (pa_cons (pv 0) (pa_cons (pv 1) (pa_cons (pv 2) pa_nil)))))
      (pss_cons (ps_set (i := 5) sc_judged_dealings.nd rfl (.inr rfl) (pe_callC _ C_order_by hr (pa_cons (pe_callB call_len_seq (by rfl) T.len_ PySem.boot_len (pa_cons (pv 0) pa_nil)) (pa_cons (pv 4) pa_nil))))
      (pss_cons (ps_if (pt_cmpR op_eq (pe_callB call_len_seq (by rfl) T.len_ PySem.boot_len (pa_cons (pv 5) pa_nil)) (pe_callB call_len_seq (by rfl) T.len_ PySem.boot_len (pa_cons (pv 0) pa_nil)) (nomark _)) (pss_one (ps_ret (pe_tup (pa_cons pe_str (pa_cons (pv 5) pa_nil))))) pss_nil)
      (pss_one (ps_ret (pe_tup (pa_cons pe_str (pa_cons (pe_callC _ C_ring_among hr (pa_cons (pe_lc (own := [("number", 6)]) (g := gName 6) (by rfl) sc_judged_dealings.nd (pi_range1 rfl T.range_ (pa_cons (pe_callB call_len_seq (by rfl) T.len_ PySem.boot_len (pa_cons (pv 0) pa_nil)) pa_nil)) (blkOk_by (own := [("number", 6)]) (N := ["dealings", "versions", "timed", "lost", "some", "numbers", "number"]) (sc := defScope s_judged_dealings) (by decide +kernel)) (fun _ _ _ _ _ => (pg_name (i := 6) sc_judged_dealings.nd rfl (.inl rfl) (.inr rfl))) (fun _ _ _ _ _ => pts_one (pt_cmpR (op_notIn_seqK K) (pv 6) (pv 5) (by rfl))) (fun _ _ _ _ _ => (pv 6))) (pa_cons (pv 4) pa_nil))) pa_nil))))))))))), fun ds ⟨dl, vs, timed, e, G⟩ => ?_⟩
  subst e
  have h12 := G.n12
  have fin : ∀ r, Told dl vs timed r → rJd [dealsD dl, versD vs, .bool timed] r := fun r h dl2 vs2 t2 e => by
    obtain ⟨rfl, rfl, rfl⟩ := all_inj (r := []) e
    exact h
  refine sw_seq (sw_drop (ev_need (ea_cons (ev_var rfl) (ea_cons (ev_var rfl) ea_nil)) G) ?_)
  refine sw_seq (sw_asg (ev_lost (ea_cons (ev_var rfl) ea_nil) G) ?_)
  cases hl : lostOf dl with
  | some p =>
    have el : lostD (some p) = .tuple [.int (p.1 : Int), .int (p.2 : Int)] := rfl
    rw [el]
    exact sw_seq (sw_if (et_test (ev_op (ev_var rfl) ev_non rv_isN)) (fun _ => sw_ret (ev_tup (ea_cons ev_str (ea_cons (ev_op (ev_var rfl) ev_int (rv_ixT rfl)) (ea_cons (ev_op (ev_var rfl) ev_int (rv_ixT rfl)) ea_nil))) (by simp)) (fin _ (.lost hl))) (fun c => nomatch c))
  | none =>
    refine sw_seq (sw_if (et_test (ev_op (ev_var (d := .none) rfl) ev_non rv_isN)) (fun c => nomatch c) (fun _ => sw_next ?_))
    refine sw_seq (sw_asgP (S := [4]) (evp_all (ea_cons (ev_var rfl) (ea_cons (ev_var rfl) (ea_cons (ev_var rfl) ea_nil))) G) fun d' ⟨rs, e, kn⟩ => ⟨_, tg_name, ?_⟩)
    subst e
    refine sw_seq (sw_asgP (S := [5]) ((evp_call (Pre := pOb) (R := rOb) (ea_cons (Ev.cast (ev_lenL (ev_var rfl)) (by rw [List.length_map])) (ea_cons (ev_var rfl) ea_nil)) ⟨dl.length, rs, rfl, h12, kn.1⟩).to fun d' r => r dl.length rs rfl) fun d' ⟨ns, e, ob, oe⟩ => ⟨_, tg_name, ?_⟩)
    subst e
    refine sw_seq (sw_if (et_test (ev_op (ev_lenL (ev_var rfl)) (ev_lenL (ev_var rfl)) rv_eqI)) (fun c => ?_) (fun c => sw_next ?_))
    · have c := of_decide_eq_true c
      rw [List.length_map, List.length_map, nI_len] at c
      exact sw_ret (ev_tup (ea_cons ev_str (ea_cons (ev_var rfl) ea_nil)) (by simp)) (fin _ (.order hl kn ob oe (by omega)))
    · have c := of_decide_eq_false c
      rw [List.length_map, List.length_map, nI_len] at c
      have c : ns.length ≠ dl.length := by omega
      generalize hL : (List.range dl.length).filter (fun x => decide (x ∉ ns)) = l
      have meml : ∀ x, x ∈ l ↔ x < dl.length ∧ x ∉ ns := fun x => by rw [← hL, List.mem_filter, List.mem_range, decide_eq_true_eq]
      have le : ns.length ≤ dl.length := by
        have := nat_nodup_len ns (List.range dl.length) ob.nd fun x hx => List.mem_range.mpr (ob.lt x hx)
        rwa [List.length_range] at this
      have ne : l ≠ [] := fun z => by
        obtain ⟨x, h1, h2⟩ := st_missing ns dl.length (by omega)
        have : x ∈ l := (meml x).mpr ⟨h1, h2⟩
        rw [z] at this
        cases this
      have ll : l.length ≤ 12 := by
        rw [← hL]
        refine Nat.le_trans (List.length_filter_le _ _) ?_
        rw [List.length_range]
        exact h12
      have eqL : D.list ((List.range dl.length).filterMap fun x => if x ∉ ns then some (.int (x : Int)) else none) = .list ((nI l).map .int) := by
        rw [fm_filter (fun x : Nat => x ∉ ns) (fun x => D.int (x : Int)), hL]
        unfold nI
        rw [List.map_map]
        rfl
      refine sw_retP (evp_tup (eap_cons ev_str.p (eap_cons ((evp_call (Pre := pRg) (R := rRg) (ea_cons (Ev.cast (EvN.ev (en_lc (List.range dl.length) (fun x : Nat => .int (x : Int)) (wk_range (ea_cons (Ev.cast (ev_lenL (ev_var rfl)) (by rw [List.length_map])) ea_nil) (by omega)) (fun x => if x ∉ ns then some (.int (x : Int)) else none) (by rw [List.length_range]; omega) (fun n x hx => ?_))) eqL) (ea_cons (ev_var rfl) ea_nil)) ⟨l, rs, rfl, ne, ll, kn.1, fun x hx => ?_⟩).to fun d' r => r l rs rfl) eap_nil)) (fun ds ⟨a, t, e, _, b, u, e2, _, e3⟩ => by rw [e, e2, e3]; simp)) (fun d' ⟨ds, e, a, t, e2, ea, b, u, e3, ⟨ring, eb, ir, rl⟩, e4⟩ => ?_)
      · refine ⟨_, _, tg_name, by decide, ?_, fun e he => ?_⟩
        · refine EvT.cast (et_test (ev_op (ev_var rfl) (ev_var rfl) rv_niL)) ?_
          rw [show decide ((x : Int) ∈ nI ns) = decide (x ∈ ns) from decide_eq_decide.mpr mem_nI]
          by_cases c : x ∈ ns <;> simp [c]
        · by_cases c : x ∉ ns
          · rw [if_pos c] at he
            cases he
            exact ev_var rfl
          · rw [if_neg c] at he
            cases he
      · obtain ⟨h1, h2⟩ := (meml x).mp hx
        obtain ⟨r, hr, hj, hi⟩ := oe x h1 h2
        exact ⟨r, hr, hj, (meml _).mpr ⟨(Known.ok G kn r hr).i, hi⟩⟩
      · rw [e, e2, e3, e4, ea, eb]
        exact fin _ (.ring hl kn ob oe c ir rl)
theorem evp_judged {ρ : Ro} {ta : TA} {E : XK} {dl : List (Dl Str)} {vs : Vr} {timed : Bool} (h : EvA ta ρ [dealsD dl, versD vs, .bool timed]) (G : Good dl vs) : EvP (tCall (Ct pAll rJd) [] E ta) ρ (Told dl vs timed) := (evp_call h ⟨dl, vs, timed, rfl, G⟩).to fun d' r => r dl vs timed rfl
end
end Tk

set_option Elab.async false
set_option linter.all false
set_option maxRecDepth 100000
set_option maxHeartbeats 4000000
/-! D12: the checker. -/
namespace Tk
open PySem PySem.Spec PyProof.Rows L2 Dm
section
variable {P : Program} {w : World} {K : PySem.W.Frag} {mg : Str → Option Value} {base : Heap}
/-! ### is_reason -/
abbrev s_is_reason : Stmt := topS 29
theorem sc_is_reason : FnScope ["some", "known"] ["some", "known"] (defScope s_is_reason) := ⟨rfl, rfl, rfl, by decide +kernel, rfl, by decide +kernel, by decide +kernel⟩
def pRs (ds : List D) : Prop := ∃ (r : Rn Str) (rs : List (Rn Str)), ds = [rsD r, .list (rs.map rsD)] ∧ r ∈ rs ∧ ∀ s ∈ rs, RsOk 12 s
theorem cal_is_reason (F : DefAt K mg "is_reason" s_is_reason ["some", "known"]) (T : Bt mg) (C_is_whole : Cal P w K mg base "is_whole" ["some", "least", "most"] 1 (Ct pWhole rWhole)) : Cal P w K mg base "is_reason" ["some", "known"] 2 (Ct pRs rTrue) := by
  refine cal_data F sc_is_reason (fun ds ⟨a, b, e, _⟩ => by rw [e]; rfl) (fun f cdv A outer s H E hr => ?_)
  refine ⟨_, (pss_cons (ps_if (PW.pt (pw_or (pt_not (pt_val (pe_callB call_isi (by rfl) T.isinstance_ PyProof.Rows.boot_isinstance (pa_cons (pv 0) (pa_cons (pe_bltn (v := .ty "tuple") (by rfl) T.tuple_ (by decide +kernel) rfl) pa_nil))))) (pw_or1 (pt_cmpR op_ne (pe_callB call_len_seq (by rfl) T.len_ PySem.boot_len (pa_cons (pv 0) pa_nil)) pe_int (nomark _))))) (pss_one (ps_ret pe_bl)) pss_nil)
      (pss_one (ps_ret (pe_and (pe_callC _ C_is_whole hr (pa_cons (pe_ix ix_tup (pv 0) pe_int (fun _ _ => rfl)) (pa_cons pe_int (pa_cons (pe_gc T.cMOST_DEALINGS) pa_nil)))) (pe_and (pe_callC _ C_is_whole hr (pa_cons (pe_ix ix_tup (pv 0) pe_int (fun _ _ => rfl)) (pa_cons pe_int (pa_cons (pe_gc T.cMOST_DEALINGS) pa_nil)))) (pe_one (pe_cmpR (op_inD hr.units65) (pv 0) (pv 1) (by rfl)))))))), fun ds ⟨r, rs, e, hm, ok⟩ => ?_⟩
  subst e
  have hx : Ev (tVar 0) (ro ["some", "known"] [rsD r, .list (rs.map rsD)]) (.tuple [.int (r.i : Int), .int (r.j : Int), .str (kdS r.k), optD r.n]) := ev_var rfl
  have o := ok r hm
  have oi := o.i
  have oj := o.j
  refine sw_seq (sw_if (et_or (et_not (et_val (isi_tuple hx))) (fun _ => et_test (ev_op (ev_lenT hx) ev_int rv_neI))) (fun c => by simp at c) (fun _ => sw_next ?_))
  refine sw_ret (ev_and (ev_whole1 (ea_cons (ev_op hx ev_int (rv_ixT rfl)) (ea_cons ev_int (ea_cons ev_int ea_nil))) (by omega) (by omega)) (fun _ => ev_and (ev_whole1 (ea_cons (ev_op hx ev_int (rv_ixT rfl)) (ea_cons ev_int (ea_cons ev_int ea_nil))) (by omega) (by omega)) (fun _ => Ev.cast (ev_op (d := rsD r) (ev_var rfl) (ev_var rfl) (rv_inD (ok_rs o) (ok_rss ok))) (by rw [any_rs hm])))) rfl
theorem ev_isReason {ρ : Ro} {ta : TA} {E : XK} {r : Rn Str} {rs : List (Rn Str)} (h : EvA ta ρ [rsD r, .list (rs.map rsD)]) (hm : r ∈ rs) (ok : ∀ s ∈ rs, RsOk 12 s) : Ev (tCall (Ct pRs rTrue) [] E ta) ρ (.bool true) := ev_call h ⟨r, rs, rfl, hm, ok⟩ fun d' r => r
/-! ### is_ring -/
abbrev s_is_ring : Stmt := topS 30
theorem sc_is_ring : FnScope ["some", "known", "reason", "firsts"] ["some", "known"] (defScope s_is_ring) := ⟨rfl, rfl, rfl, by decide +kernel, rfl, by decide +kernel, by decide +kernel⟩
def pIr (ds : List D) : Prop := ∃ (ring rs : List (Rn Str)), ds = [.list (ring.map rsD), .list (rs.map rsD)] ∧ IsRing rs ring ∧ ring.length ≤ 12 ∧ ∀ s ∈ rs, RsOk 12 s
theorem cal_is_ring (F : DefAt K mg "is_ring" s_is_ring ["some", "known"]) (T : Bt mg) (C_is_reason : Cal P w K mg base "is_reason" ["some", "known"] 2 (Ct pRs rTrue)) : Cal P w K mg base "is_ring" ["some", "known"] 3 (Ct pIr rTrue) := by
  refine cal_data F sc_is_ring (fun ds ⟨a, b, e, _⟩ => by rw [e]; rfl) (fun f cdv A outer s H E hr => ?_)
  refine ⟨_, (pss_cons (ps_if (PW.pt (pw_or (pt_not (pt_val (pe_callB call_isi (by rfl) T.isinstance_ PyProof.Rows.boot_isinstance (pa_cons (pv 0) (pa_cons (pe_bltn (v := .ty "list") (by rfl) T.list_ (by decide +kernel) rfl) pa_nil))))) (pw_or1 (pt_cmpR (op_eqD hr.units) (pv 0) (pe_lst pa_nil) (nomark _))))) (pss_one (ps_ret pe_bl)) pss_nil)
      (pss_cons (ps_for PassesOwn.never rfl (pi_list (pv 0)) (pg_name (i := 2) sc_is_ring.nd rfl (.inl rfl) (.inl rfl)) (pss_one (ps_if (pt_not (pt_val (pe_callC _ C_is_reason hr (pa_cons (pv 2) (pa_cons (pv 1) pa_nil))))) (pss_one (ps_ret pe_bl)) pss_nil)))
      (pss_cons (ps_setLc (i := 3) (own := [("reason", 2)]) (g := gName 2) (by rfl) sc_is_ring.nd rfl rfl (sw_true rfl rfl rfl (by decide +kernel)) (pi_list (pv 0)) (blkOk_by (own := [("reason", 2)]) (N := ["some", "known", "reason", "firsts"]) (sc := defScope s_is_ring) (by decide +kernel)) (fun _ _ _ _ _ => (pg_name (i := 2) sc_is_ring.nd rfl (.inl rfl) (.inr rfl))) (fun _ _ _ _ _ => pts_nil) (fun _ _ _ _ _ => (pe_ix (ix_tupK K) (pv 2) pe_int (fun _ _ => rfl))))
      (pss_one (ps_ret (pe_and (pe_cmpR op_eq (pe_lenSetI rfl (by rfl) T.len_ (by rfl) T.set_ (pv 3)) (pe_callB call_len_seq (by rfl) T.len_ PySem.boot_len (pa_cons (pv 3) pa_nil)) (nomark _)) (pe_one (pe_cmpR (op_eqD hr.units) (pe_lc (own := [("reason", 2)]) (g := gName 2) (by rfl) sc_is_ring.nd (pi_list (pv 0)) (blkOk_by (own := [("reason", 2)]) (N := ["some", "known", "reason", "firsts"]) (sc := defScope s_is_ring) (by decide +kernel)) (fun _ _ _ _ _ => (pg_name (i := 2) sc_is_ring.nd rfl (.inl rfl) (.inr rfl))) (fun _ _ _ _ _ => pts_nil) (fun _ _ _ _ _ => (pe_ix (ix_tupK K) (pv 2) pe_int (fun _ _ => rfl)))) (pe_op op_cat (pe_slice sl_list (pv 3) (po_some pe_int) po_none) (pe_slice sl_list (pv 3) po_none (po_some pe_int))) (nomark _))))))))), fun ds ⟨ring, rs, e, ir, hl, ok⟩ => ?_⟩
  subst e
  have okr : ∀ s ∈ ring, RsOk 12 s := fun s hs => ok s (ir.mem s hs)
  have ne : PyData.eqv (toPy (.list (ring.map rsD))) (toPy (.list [])) = false := by
    obtain ⟨a, t, e⟩ := List.exists_cons_of_ne_nil ir.ne
    rw [e]
    rfl
  refine sw_seq (sw_if (et_or (et_not (et_val (isi_list (ev_var rfl)))) (fun _ => et_test (ev_op (ev_var rfl) (EvN.ev (en_lst ea_nil (by simp))) (rv_eqD (ok_rss okr) (ok_ints []))))) (fun c => by rw [ne] at c; exact nomatch c) (fun _ => sw_next ?_))
  refine sw_seq (sw_forX [2] ring rsD (wk_list (ev_var rfl)) (fun i ρ => ρ = [.im (.list (ring.map rsD)), .im (.list (rs.map rsD)), .no, .no]) rfl (fun i r ρ hr e => ?_) (fun ρ e => ?_))
  · subst e
    exact ⟨_, _, tg_name, sw_if (et_not (et_val (ev_isReason (ea_cons (ev_var rfl) (ea_cons (ev_var rfl) ea_nil)) (ir.mem r (List.mem_of_getElem? hr)) ok))) (fun c => nomatch c) (fun _ => sw_next rfl)⟩
  · subst e
    have fis : D.list (ring.filterMap fun r => some (D.int (r.i : Int))) = .list ((nI (ring.map (·.i))).map .int) := by
      rw [List.filterMap_eq_map']
      unfold nI
      rw [List.map_map, List.map_map]
      rfl
    have sec : D.list (ring.filterMap fun r => some (D.int (r.j : Int))) = .list ((nI (ring.map (·.j))).map .int) := by
      rw [List.filterMap_eq_map']
      unfold nI
      rw [List.map_map, List.map_map]
      rfl
    refine sw_seq (sw_asg (Ev.cast (EvN.ev (en_lc ring rsD (wk_list (ev_var rfl)) (fun r => some (.int (r.i : Int))) (by omega) (fun n r hr => ⟨_, _, tg_name, by decide, et_yes, fun e he => by
      cases he
      exact ev_op (d := rsD r) (ev_var rfl) ev_int (rv_ixT rfl)⟩))) fis) ?_)
    generalize hf : nI (ring.map (·.i)) = fs
    have lf : fs.length = ring.length := by rw [← hf, nI_len, List.length_map]
    have ndf : fs.Nodup := by
      rw [← hf]
      unfold nI
      exact List.Pairwise.map _ (fun a b h e => h (by omega)) ir.nd
    refine sw_ret (ev_and (a := true) (b := true) (Ev.cast (ev_op (ev_lenSet (ev_var rfl) (by omega) ndf) (ev_lenL (ev_var rfl)) rv_eqI) (by rw [List.length_map, decide_eq_true rfl])) (fun _ => Ev.cast (ev_op (Ev.cast (EvN.ev (en_lc ring rsD (wk_list (ev_var rfl)) (fun r => some (.int (r.j : Int))) (by omega) (fun n r hr => ⟨_, _, tg_name, by decide, et_yes, fun e he => by
      cases he
      exact ev_op (d := rsD r) (ev_var rfl) ev_int (rv_ixT rfl)⟩))) sec) (Ev.cast (EvN.ev (en_cat (EvN.ev (en_slL (ev_var rfl) (eo_some (i := ((1 : Nat) : Int)) ev_int) eo_none)) (EvN.ev (en_slL (ev_var rfl) eo_none (eo_some (i := ((1 : Nat) : Int)) ev_int))) (by
        rw [cut_drop, cut_take, List.length_drop, List.length_take, List.length_map]
        omega))) (show _ = D.list ((fs.drop 1 ++ fs.take 1).map .int) by rw [cut_drop, cut_take, map_drop', map_take', ← List.map_append])) (rv_eqD (ok_ints _) (ok_ints _))) (show _ = D.bool true by
        rw [eqvD_ints, ← hf]
        have : nI (ring.map (·.j)) = (nI (ring.map (·.i))).drop 1 ++ (nI (ring.map (·.i))).take 1 := by
          rw [ir.rot]
          unfold nI
          rw [List.map_append, List.map_drop, List.map_take]
        rw [decide_eq_true this]))) rfl
theorem ev_isRing {ρ : Ro} {ta : TA} {E : XK} {ring rs : List (Rn Str)} (h : EvA ta ρ [.list (ring.map rsD), .list (rs.map rsD)]) (ir : IsRing rs ring) (hl : ring.length ≤ 12) (ok : ∀ s ∈ rs, RsOk 12 s) : Ev (tCall (Ct pIr rTrue) [] E ta) ρ (.bool true) := ev_call h ⟨ring, rs, rfl, ir, hl, ok⟩ fun d' r => r
/-! ### is_order -/
abbrev s_is_order : Stmt := topS 31
theorem sc_is_order : FnScope ["some", "many", "known", "at", "number", "reason"] ["some", "many", "known"] (defScope s_is_order) := ⟨rfl, rfl, rfl, by decide +kernel, rfl, by decide +kernel, by decide +kernel⟩
def pIo (ds : List D) : Prop := ∃ (ns : List Nat) (many : Nat) (rs : List (Rn Str)), ds = [.list ((nI ns).map .int), .int (many : Int), .list (rs.map rsD)] ∧ ns.Perm (List.range many) ∧ many ≤ 12 ∧ ∀ s ∈ rs, RsOk many s
def rIo (ds : List D) (r : D) : Prop := ∀ (ns : List Nat) (many : Nat) (rs : List (Rn Str)), ds = [.list ((nI ns).map .int), .int (many : Int), .list (rs.map rsD)] → r = .bool (decide (∀ s ∈ rs, ns.idxOf s.i ≤ ns.idxOf s.j))
theorem cal_is_order (F : DefAt K mg "is_order" s_is_order ["some", "many", "known"]) (T : Bt mg) (C_is_whole : Cal P w K mg base "is_whole" ["some", "least", "most"] 1 (Ct pWhole rWhole)) : Cal P w K mg base "is_order" ["some", "many", "known"] 2 (Ct pIo rIo) := by
  refine cal_data F sc_is_order (fun ds ⟨a, b, c, e, _⟩ => by rw [e]; rfl) (fun f cdv A outer s H E hr => ?_)
  refine ⟨_, (pss_cons (ps_if (PW.pt (pw_or (pt_not (pt_val (pe_callB call_isi (by rfl) T.isinstance_ PyProof.Rows.boot_isinstance (pa_cons (pv 0) (pa_cons (pe_bltn (v := .ty "list") (by rfl) T.list_ (by decide +kernel) rfl) pa_nil))))) (pw_or1 (pt_cmpR op_ne (pe_callB call_len_seq (by rfl) T.len_ PySem.boot_len (pa_cons (pv 0) pa_nil)) (pv 1) (nomark _))))) (pss_one (ps_ret pe_bl)) pss_nil)
      (pss_cons (ps_for PassesOwn.never rfl (pi_enum (by rfl) T.enumerate_ (pa_cons (pv 0) pa_nil)) (pg_tup rfl (pgs_cons (pg_name (i := 3) sc_is_order.nd rfl (.inl rfl) (.inl rfl)) (pgs_cons (pg_name (i := 4) sc_is_order.nd rfl (.inl rfl) (.inl rfl)) pgs_nil))) (pss_one (ps_if (PW.pt (pw_or (pt_not (pt_val (pe_callC _ C_is_whole hr (pa_cons (pv 4) (pa_cons pe_int (pa_cons (pe_op op_sub (pv 1) pe_int) pa_nil)))))) (pw_or1 (pt_cmpR op_in_seq (pv 4) (pe_slice sl_list (pv 0) po_none (po_some (pv 3))) (by rfl))))) (pss_one (ps_ret pe_bl)) pss_nil)))
      (pss_cons (ps_for PassesOwn.never rfl (pi_list (pv 2)) (pg_name (i := 5) sc_is_order.nd rfl (.inl rfl) (.inl rfl)) (pss_one (ps_if (pt_cmpR op_gt (pe_bm PySem.F.plainAttrs_list PySem.F.slot_list_index PySem.F.type_list_index mt_index (pv 0) (pa_cons (pe_ix ix_tup (pv 5) pe_int (fun _ _ => rfl)) pa_nil)) (pe_bm PySem.F.plainAttrs_list PySem.F.slot_list_index PySem.F.type_list_index mt_index (pv 0) (pa_cons (pe_ix ix_tup (pv 5) pe_int (fun _ _ => rfl)) pa_nil)) (nomark _)) (pss_one (ps_ret pe_bl)) pss_nil)))
      (pss_one (ps_ret pe_bl))))), fun ds ⟨ns, many, rs, e, pm, h12, ok⟩ => ?_⟩
  subst e
  have len : ns.length = many := by rw [pm.length_eq, List.length_range]
  have nd : ns.Nodup := pm.nodup_iff.mpr List.nodup_range
  have mem : ∀ x, x ∈ ns ↔ x < many := fun x => by rw [pm.mem_iff, List.mem_range]
  have fin : ∀ b, b = decide (∀ s ∈ rs, ns.idxOf s.i ≤ ns.idxOf s.j) → rIo [.list ((nI ns).map .int), .int (many : Int), .list (rs.map rsD)] (.bool b) := fun b h ns' many' rs' e => by
    injection e with e1 e
    injection e with e2 e
    injection e with e3 _
    injection e1 with e1
    injection e3 with e3
    have e1 := nI_inj (int_inj' e1)
    have e3 := rs_inj e3
    subst e1 e3
    rw [h]
  refine sw_seq (sw_if (et_or (et_not (et_val (isi_list (ev_var rfl)))) (fun _ => et_test (ev_op (ev_lenL (ev_var rfl)) (ev_var rfl) rv_neI))) (fun c => ?_) (fun _ => sw_next ?_))
  · rw [List.length_map, nI_len, len] at c
    simp at c
  refine sw_seq (sw_forE [3, 4] (nI ns) D.int (wk_enum (ea_cons (ev_var rfl) ea_nil)) (fun i ρ => ρ = [.im (.list ((nI ns).map .int)), .im (.int (many : Int)), .im (.list (rs.map rsD)), .no, .no, .no]) rfl (fun i x ρ hx e => ?_) (fun ρ e => ?_))
  · subst e
    unfold nI at hx
    rw [List.getElem?_map] at hx
    obtain ⟨y, hy, rfl⟩ := Option.map_eq_some_iff.mp hx
    have hi := (List.getElem?_eq_some_iff.mp hy).1
    have hlt : y < many := (mem y).mp (List.mem_of_getElem? hy)
    have nin : ¬ (y : Int) ∈ (nI ns).take i := fun m => by
      unfold nI at m
      rw [← List.map_take] at m
      have m := mem_nI.mp m
      obtain ⟨j, hj, ej⟩ := List.mem_iff_getElem.mp m
      rw [List.length_take] at hj
      have := List.pairwise_iff_getElem.mp nd j i (by omega) hi (by omega)
      rw [List.getElem_take] at ej
      exact this (ej.trans (List.getElem?_eq_some_iff.mp hy).2.symm)
    refine ⟨_, _, tg_tup (tgs_cons tg_name (tgs_cons tg_name tgs_nil)), sw_if (et_or (et_not (et_val (ev_whole1 (ea_cons (ev_var rfl) (ea_cons ev_int (ea_cons (ev_op (ev_var rfl) ev_int rv_sub) ea_nil))) (by omega) (by omega)))) (fun _ => et_test (ev_op (ev_var rfl) ((EvN.ev (en_slL (ev_var rfl) eo_none (eo_some (ev_var rfl)))).cast (by rw [cut_take, map_take'])) rv_inL))) (fun c => ?_) (fun _ => sw_next rfl)⟩
    rw [decide_eq_false nin] at c
    exact nomatch c
  · subst e
    refine sw_seq (sw_forX [5] rs rsD (wk_list (ev_var rfl)) (fun i ρ => (∀ s ∈ rs.take i, ns.idxOf s.i ≤ ns.idxOf s.j) ∧ ρ = [.im (.list ((nI ns).map .int)), .im (.int (many : Int)), .im (.list (rs.map rsD)), .no, .no, .no]) ⟨fun s hs => by simp at hs, rfl⟩ (fun i r ρ hr inv => ?_) (fun ρ inv => ?_))
    · obtain ⟨prev, rfl⟩ := inv
      have hm := List.mem_of_getElem? hr
      have o := ok r hm
      refine ⟨_, _, tg_name, sw_if (et_test (ev_op (Ev.cast (ev_index (ev_var rfl) (ev_op (d := rsD r) (ev_var rfl) ev_int (rv_ixT rfl)) (mem_nI.mpr ((mem r.i).mpr o.i))) (by rw [nI_idx])) (Ev.cast (ev_index (ev_var rfl) (ev_op (d := rsD r) (ev_var rfl) ev_int (rv_ixT rfl)) (mem_nI.mpr ((mem r.j).mpr o.j))) (by rw [nI_idx])) rv_gt)) (fun c => sw_ret ev_bl (fin false ?_)) (fun c => sw_next ⟨fun s hs => ?_, rfl⟩)⟩
      · have c := of_decide_eq_true c
        refine (decide_eq_false fun h => ?_).symm
        have := h r hm
        omega
      · have c := of_decide_eq_false c
        rw [List.take_add_one, hr] at hs
        rcases List.mem_append.mp hs with z | z
        · exact prev s z
        · have : s = r := by simpa using z
          rw [this]
          omega
    · obtain ⟨prev, rfl⟩ := inv
      rw [List.take_length] at prev
      exact sw_ret ev_bl (fin true (decide_eq_true prev).symm)
theorem ev_isOrder {ρ : Ro} {ta : TA} {E : XK} {ns : List Nat} {many : Nat} {rs : List (Rn Str)} (h : EvA ta ρ [.list ((nI ns).map .int), .int (many : Int), .list (rs.map rsD)]) (pm : ns.Perm (List.range many)) (h12 : many ≤ 12) (ok : ∀ s ∈ rs, RsOk many s) : Ev (tCall (Ct pIo rIo) [] E ta) ρ (.bool (decide (∀ s ∈ rs, ns.idxOf s.i ≤ ns.idxOf s.j))) := ev_call h ⟨ns, many, rs, rfl, pm, h12, ok⟩ fun d' r => r ns many rs rfl
end
end Tk

set_option Elab.async false
set_option linter.all false
set_option maxRecDepth 100000
set_option maxHeartbeats 4000000
/-! D13: is_verdict. -/
namespace Tk
open PySem PySem.Spec PyProof.Rows L2 Dm
/-- what the checker is asked, what it answers -/
def Ask (dl : List (Dl Str)) (vs : Vr) (timed : Bool) (told : D) (b : Bool) : Prop :=
  (∃ p, told = losD p ∧ lostOf dl = some p ∧ b = true) ∨
  (∃ ns : List Nat, told = ordD ns ∧ ns.Perm (List.range dl.length) ∧ b = decide (lostOf dl = none ∧ ∀ r ∈ allL dl vs timed, r.i ≠ r.j → ns.idxOf r.i ≤ ns.idxOf r.j)) ∨
  (∃ rs ring, told = ringD ring ∧ lostOf dl = none ∧ Known dl vs timed rs ∧ IsRing rs ring ∧ ring.length ≤ 12 ∧ b = true)
theorem los_ord {p : Nat × Nat} {ns : List Nat} : losD p ≠ ordD ns := fun h => by
  injection h with h
  injection h with h _
  injection h with h
  exact absurd h (by decide +kernel)
theorem ring_ord {ring : List (Rn Str)} {ns : List Nat} : ringD ring ≠ ordD ns := fun h => by
  injection h with h
  injection h with h _
  injection h with h
  exact absurd h (by decide +kernel)
theorem ord_inj {a b : List Nat} (h : ordD a = ordD b) : a = b := by
  injection h with h
  injection h with _ h
  injection h with h _
  injection h with h
  exact nI_inj (int_inj' h)
theorem Ask.uniq {dl : List (Dl Str)} {vs : Vr} {timed : Bool} {told : D} {b b' : Bool} (h : Ask dl vs timed told b) (h' : Ask dl vs timed told b') : b = b' := by
  rcases h with ⟨p, e, _, hb⟩ | ⟨ns, e, _, hb⟩ | ⟨_, ring, e, _, _, _, _, hb⟩
  · rcases h' with ⟨p', e', _, hb'⟩ | ⟨ns', e', _, hb'⟩ | ⟨_, ring', e', _, _, _, _, hb'⟩
    · rw [hb, hb']
    · exact absurd (e.symm.trans e') los_ord
    · rw [hb, hb']
  · rcases h' with ⟨p', e', _, hb'⟩ | ⟨ns', e', _, hb'⟩ | ⟨_, ring', e', _, _, _, _, hb'⟩
    · exact absurd (e'.symm.trans e) los_ord
    · have := ord_inj (e.symm.trans e')
      rw [hb, hb', this]
    · exact absurd (e'.symm.trans e) ring_ord
  · rcases h' with ⟨p', e', _, hb'⟩ | ⟨ns', e', _, hb'⟩ | ⟨_, ring', e', _, _, _, _, hb'⟩
    · rw [hb, hb']
    · exact absurd (e.symm.trans e') ring_ord
    · rw [hb, hb']
theorem IsRing.to {rs rs' ring : List (Rn Str)} (h : IsRing rs ring) (m : ∀ r, r ∈ rs → r ∈ rs') : IsRing rs' ring := ⟨h.ne, fun r hr => m r (h.mem r hr), h.nd, h.rot⟩
section
variable {P : Program} {w : World} {K : PySem.W.Frag} {mg : Str → Option Value} {base : Heap}
abbrev s_is_verdict : Stmt := topS 32
theorem sc_is_verdict : FnScope ["dealings", "versions", "timed", "told", "lost", "known"] ["dealings", "versions", "timed", "told"] (defScope s_is_verdict) := ⟨rfl, rfl, rfl, by decide +kernel, rfl, by decide +kernel, by decide +kernel⟩
def pVd (ds : List D) : Prop := ∃ (dl : List (Dl Str)) (vs : Vr) (timed : Bool) (told : D) (b : Bool), ds = [dealsD dl, versD vs, .bool timed, told] ∧ Good dl vs ∧ Ask dl vs timed told b
def rVd (ds : List D) (r : D) : Prop := ∀ (dl : List (Dl Str)) (vs : Vr) (timed : Bool) (told : D) (b : Bool), ds = [dealsD dl, versD vs, .bool timed, told] → Ask dl vs timed told b → r = .bool b
theorem cal_is_verdict (F : DefAt K mg "is_verdict" s_is_verdict ["dealings", "versions", "timed", "told"]) (T : Bt mg) (C_need_dealings : Cal P w K mg base "need_dealings" ["dealings", "versions"] 5 (Ct pGood rNone)) (C_first_lost : Cal P w K mg base "first_lost" ["dealings"] 3 (Ct pDls rLost))
    (C_is_whole : Cal P w K mg base "is_whole" ["some", "least", "most"] 1 (Ct pWhole rWhole)) (C_all_reasons : Cal P w K mg base "all_reasons" ["dealings", "versions", "timed"] 3 (Ct pAll rAll)) (C_is_order : Cal P w K mg base "is_order" ["some", "many", "known"] 2 (Ct pIo rIo)) (C_is_ring : Cal P w K mg base "is_ring" ["some", "known"] 3 (Ct pIr rTrue)) :
    Cal P w K mg base "is_verdict" ["dealings", "versions", "timed", "told"] 6 (Ct pVd rVd) := by
  refine cal_data F sc_is_verdict (fun ds ⟨a, b, c, d, b', e, _⟩ => by rw [e]; rfl) (fun f cdv A outer s H E hr => ?_)
  refine ⟨_, (pss_cons (ps_expr (pe_callC _ C_need_dealings hr (pa_cons (pv 0) (pa_cons (pv 1) pa_nil))))
      (pss_cons (ps_if (PW.pt (pw_or (pt_not (pt_val (pe_callB call_isi (by rfl) T.isinstance_ PyProof.Rows.boot_isinstance (pa_cons (pv 3) (pa_cons (pe_bltn (v := .ty "tuple") (by rfl) T.tuple_ (by decide +kernel) rfl) pa_nil))))) (pw_or1 (pt_cmpR op_lt (pe_callB call_len_seq (by rfl) T.len_ PySem.boot_len (pa_cons (pv 3) pa_nil)) pe_int (nomark _))))) (pss_one (ps_ret pe_bl)) pss_nil)
      (pss_cons (ps_set (i := 4) sc_is_verdict.nd rfl (.inl rfl) (pe_callC _ C_first_lost hr (pa_cons (pv 0) pa_nil)))
      (pss_cons (ps_if (pt_cmpR op_notN (pv 4) pe_non (nomark _)) (pss_cons (ps_if (PW.pt (pw_or (pt_cmpR op_ne (pe_callB call_len_seq (by rfl) T.len_ PySem.boot_len (pa_cons (pv 3) pa_nil)) pe_int (nomark _)) (pw_or (pt_not (pt_val (pe_callC _ C_is_whole hr (pa_cons (pe_ix ix_tup (pv 3) pe_int (fun _ _ => rfl)) (pa_cons pe_int (pa_cons (pe_gc T.cMOST_DEALINGS) pa_nil)))))) (pw_or1 (pt_not (pt_val (pe_callC _ C_is_whole hr (pa_cons (pe_ix ix_tup (pv 3) pe_int (fun _ _ => rfl)) (pa_cons pe_int (pa_cons (pe_gc T.cMOST_MOMENT) pa_nil)))))))))) (pss_one (ps_ret pe_bl)) pss_nil)
      (pss_one (ps_ret (pe_cmpR (op_eqD hr.units) (pv 3) (pe_tup (pa_cons pe_str (pa_cons (pe_ix ix_tup (pv 4) pe_int (fun _ _ => rfl)) (pa_cons (pe_ix ix_tup (pv 4) pe_int (fun _ _ => rfl)) pa_nil)))) (nomark _))))) pss_nil)
      (pss_cons (ps_set (i := 5) sc_is_verdict.nd rfl (.inl rfl) (pe_callC _ C_all_reasons hr (pa_cons (pv 0) (pa_cons (pv 1) (pa_cons (pv 2) pa_nil)))))
      (pss_cons (ps_if (pt_cmpR op_ne (pe_callB call_len_seq (by rfl) T.len_ PySem.boot_len (pa_cons (pv 3) pa_nil)) pe_int (nomark _)) (pss_one (ps_ret pe_bl)) pss_nil)
      (pss_cons (ps_if (pt_cmpR op_eq (pe_ix ix_tup (pv 3) pe_int (fun _ _ => rfl)) pe_str (nomark _)) (pss_one (ps_ret (pe_callC _ C_is_order hr (pa_cons (pe_ix ix_tup (pv 3) pe_int (fun _ _ => rfl)) (pa_cons (pe_callB call_len_seq (by rfl) T.len_ PySem.boot_len (pa_cons (pv 0) pa_nil)) (pa_cons (pv 5) pa_nil)))))) pss_nil)
      (pss_one (ps_ret (pe_and (pe_cmpR op_eq (pe_ix ix_tup (pv 3) pe_int (fun _ _ => rfl)) pe_str (nomark _)) (pe_one (pe_callC _ C_is_ring hr (pa_cons (pe_ix ix_tup (pv 3) pe_int (fun _ _ => rfl)) (pa_cons (pv 5) pa_nil)))))))))))))), fun ds ⟨dl, vs, timed, told, b, e, G, ask⟩ => ?_⟩
  subst e
  have h12 := G.n12
  have fin : ∀ b', b' = b → rVd [dealsD dl, versD vs, .bool timed, told] (.bool b') := fun b' h dl2 vs2 t2 told2 b2 e a2 => by
    injection e with e1 e
    injection e with e2 e
    injection e with e3 e
    injection e with e4 _
    have e1 := dealsD_inj e1
    have e2 := versD_inj e2
    injection e3 with e3
    subst e1 e2 e3 e4
    rw [h, ask.uniq a2]
  obtain ⟨xs, ex, lx⟩ : ∃ xs, told = .tuple xs ∧ 2 ≤ xs.length ∧ xs.length ≤ 3 := by
    rcases ask with ⟨p, e, _⟩ | ⟨ns, e, _⟩ | ⟨_, ring, e, _⟩
    · exact ⟨_, e, by simp, by simp⟩
    · exact ⟨_, e, by simp, by simp⟩
    · exact ⟨_, e, by simp, by simp⟩
  have tv : ∀ {ρ : Ro}, ρ[3]? = some (Ent.im told) → Ev (tVar 3) ρ (.tuple xs) := fun h => ex ▸ ev_var h
  refine sw_seq (sw_drop (ev_need (ea_cons (ev_var rfl) (ea_cons (ev_var rfl) ea_nil)) G) ?_)
  refine sw_seq (sw_if (et_or (et_not (et_val (isi_tuple (tv rfl)))) (fun _ => et_test (ev_op (ev_lenT (tv rfl)) ev_int rv_lt))) (fun c => ?_) (fun _ => sw_next ?_))
  · have : ¬ (xs.length : Int) < 2 := by omega
    rw [decide_eq_false this] at c
    exact nomatch c
  refine sw_seq (sw_asg (ev_lost (ea_cons (ev_var rfl) ea_nil) G) ?_)
  cases hl : lostOf dl with
  | some p =>
    have el : lostD (some p) = .tuple [.int (p.1 : Int), .int (p.2 : Int)] := rfl
    rw [el]
    refine sw_seq (sw_if (et_test (ev_op (ev_var rfl) ev_non rv_isN)) (fun _ => ?_) (fun c => nomatch c))
    rcases ask with ⟨p', e, hp, hb⟩ | ⟨ns, e, pm, hb⟩ | ⟨_, ring, e, hn, _⟩
    · rw [hl] at hp
      cases hp
      obtain ⟨b1, b2⟩ := lostOf_is hl
      have b3 := la_lt b2
      have b4 : (dsOf dl p.1).length ≤ 4 := by
        have hd : dl[p.1]? = some dl[p.1] := List.getElem?_eq_getElem b1
        rw [dsOf_get hd]
        exact (G.dl _ (List.mem_of_getElem? hd)).2.2.2.2
      have e' : told = .tuple [.str "lost", .int (p.1 : Int), .int (p.2 : Int)] := e
      have tv : ∀ {ρ : Ro}, ρ[3]? = some (Ent.im told) → Ev (tVar 3) ρ (.tuple [.str "lost", .int (p.1 : Int), .int (p.2 : Int)]) := fun h => e' ▸ ev_var h
      refine sw_seq (sw_if (et_or (et_test (ev_op (ev_lenT (tv rfl)) ev_int rv_neI)) (fun _ => et_or (et_not (et_val (ev_whole1 (ea_cons (ev_op (tv rfl) ev_int (rv_ixT rfl)) (ea_cons ev_int (ea_cons ev_int ea_nil))) (by omega) (by omega)))) (fun _ => et_not (et_val (ev_whole1 (ea_cons (ev_op (tv rfl) ev_int (rv_ixT rfl)) (ea_cons ev_int (ea_cons ev_int ea_nil))) (by omega) (by omega)))))) (fun c => by simp at c) (fun _ => sw_next ?_))
      have ok : okD (.tuple [.str "lost", .int (p.1 : Int), .int (p.2 : Int)]) = true := by
        have s : PyData.strOk ("lost" : Str) = true := by decide +kernel
        unfold okD SeqAt.shaped
        rw [Bool.and_eq_true, decide_eq_true_eq]
        refine ⟨?_, by show max 0 (max 0 (max 0 0)) + 1 ≤ 64; decide⟩
        show (PyData.strOk _ && (true && (true && true))) = true
        rw [s]
        rfl
      refine sw_ret (ev_op (tv rfl) (ev_tup (ea_cons ev_str (ea_cons (ev_op (ev_var rfl) ev_int (rv_ixT rfl)) (ea_cons (ev_op (ev_var rfl) ev_int (rv_ixT rfl)) ea_nil))) (by simp)) (rv_eqD ok ok)) (fin _ ?_)
      rw [hb]
      show ((("lost" : Str) == ("lost" : Str)) && (((p.1 : Int) == (p.1 : Int)) && (((p.2 : Int) == (p.2 : Int)) && true))) = true
      simp
    · have e' : told = .tuple [.str "order", .list ((nI ns).map .int)] := e
      have tv : ∀ {ρ : Ro}, ρ[3]? = some (Ent.im told) → Ev (tVar 3) ρ (.tuple [.str "order", .list ((nI ns).map .int)]) := fun h => e' ▸ ev_var h
      refine sw_seq (sw_if (b := true) (EvT.cast (et_or (a := true) (b := true) (Ev.cast (ev_op (ev_lenT (tv rfl)) ev_int rv_neI) (by simp) |> et_test) (fun z => nomatch z)) rfl) (fun _ => sw_ret ev_bl (fin _ ?_)) (fun z => nomatch z))
      rw [hb, decide_eq_false]
      intro h
      rw [hl] at h
      exact nomatch h.1
    · rw [hl] at hn
      cases hn
  | none =>
    refine sw_seq (sw_if (et_test (ev_op (ev_var (d := .none) rfl) ev_non rv_isN)) (fun c => nomatch c) (fun _ => sw_next ?_))
    refine sw_seq (sw_asgP (S := [5]) (evp_all (ea_cons (ev_var rfl) (ea_cons (ev_var rfl) (ea_cons (ev_var rfl) ea_nil))) G) fun d' ⟨rs, e, kn⟩ => ⟨_, tg_name, ?_⟩)
    subst e
    have okn := Known.ok G kn
    have ok12 : ∀ s ∈ rs, RsOk 12 s := fun s hs => ⟨Nat.lt_of_lt_of_le (okn s hs).i h12, Nat.lt_of_lt_of_le (okn s hs).j h12, (okn s hs).nm⟩
    rcases ask with ⟨p', e, hp, hb⟩ | ⟨ns, e, pm, hb⟩ | ⟨rs0, ring, e, hn, kn0, ir, lr, hb⟩
    · rw [hl] at hp
      cases hp
    · have e' : told = .tuple [.str "order", .list ((nI ns).map .int)] := e
      have tv : ∀ {ρ : Ro}, ρ[3]? = some (Ent.im told) → Ev (tVar 3) ρ (.tuple [.str "order", .list ((nI ns).map .int)]) := fun h => e' ▸ ev_var h
      refine sw_seq (sw_if (et_test (ev_op (ev_lenT (tv rfl)) ev_int rv_neI)) (fun c => by simp at c) (fun _ => sw_next ?_))
      refine sw_seq (sw_if (et_test (ev_op (ev_op (tv rfl) ev_int (rv_ixT rfl)) ev_str rv_eqS)) (fun _ => ?_) (fun c => by simp at c))
      refine sw_ret (ev_isOrder (ea_cons (ev_op (tv rfl) ev_int (rv_ixT rfl)) (ea_cons (Ev.cast (ev_lenL (ev_var rfl)) (by rw [List.length_map])) (ea_cons (ev_var rfl) ea_nil))) pm h12 okn) (fin _ ?_)
      rw [hb]
      refine decide_eq_decide.mpr ⟨fun h => ⟨hl, fun r hr ne => h r ((kn.2 r).mpr ⟨hr, ne⟩)⟩, fun h r hr => ?_⟩
      obtain ⟨h1, h2⟩ := (kn.2 r).mp hr
      exact h.2 r h1 h2
    · have e' : told = .tuple [.str "ring", .list (ring.map rsD)] := e
      have tv : ∀ {ρ : Ro}, ρ[3]? = some (Ent.im told) → Ev (tVar 3) ρ (.tuple [.str "ring", .list (ring.map rsD)]) := fun h => e' ▸ ev_var h
      refine sw_seq (sw_if (et_test (ev_op (ev_lenT (tv rfl)) ev_int rv_neI)) (fun c => by simp at c) (fun _ => sw_next ?_))
      refine sw_seq (sw_if (et_test (ev_op (ev_op (tv rfl) ev_int (rv_ixT rfl)) ev_str rv_eqS)) (fun c => absurd (of_decide_eq_true c) (by decide +kernel)) (fun _ => sw_next ?_))
      have ir' : IsRing rs ring := ir.to fun r hr => (kn.2 r).mpr ((kn0.2 r).mp hr)
      exact sw_ret (ev_and (a := true) (b := true) (Ev.cast (ev_op (ev_op (tv rfl) ev_int (rv_ixT rfl)) ev_str rv_eqS) (by rw [decide_eq_true rfl])) (fun _ => ev_isRing (ea_cons (ev_op (tv rfl) ev_int (rv_ixT rfl)) (ea_cons (ev_var rfl) ea_nil)) ir' lr ok12)) (fin _ hb.symm)
theorem ev_verdict {ρ : Ro} {ta : TA} {E : XK} {dl : List (Dl Str)} {vs : Vr} {timed : Bool} {told : D} {b : Bool} (h : EvA ta ρ [dealsD dl, versD vs, .bool timed, told]) (G : Good dl vs) (a : Ask dl vs timed told b) : Ev (tCall (Ct pVd rVd) [] E ta) ρ (.bool b) := ev_call h ⟨dl, vs, timed, told, b, rfl, G, a⟩ fun d' r => r dl vs timed told b rfl a
end
end Tk

set_option Elab.async false
set_option linter.all false
set_option maxRecDepth 100000
set_option maxHeartbeats 4000000
/-! D14: what is told stands, in plain Lean. -/
namespace Tk
open PySem PySem.Spec PyProof.Rows L2 Dm
section
variable {dl : List (Dl Str)} {vs : Vr} {timed : Bool}
theorem bad_iff (F : Fit dl (vlOf vs)) {i : Nat} {n : Str} {v : Int} : ¬ badR dl i n v = true ↔ (v ≠ 0 → ∃ j, Wr dl n v j ∧ j ≠ i) := by
  unfold badR
  by_cases m : (n, v) ∈ allW dl
  · rw [if_pos m]
    have hw := wOf_wr F (F.memW.mp m)
    constructor
    · intro h hv
      refine ⟨_, hw, fun z => h ?_⟩
      rw [decide_eq_true hv, decide_eq_true z]
      rfl
    · intro h c
      rw [Bool.and_eq_true, decide_eq_true_eq, decide_eq_true_eq] at c
      obtain ⟨j, h1, h2⟩ := h c.1
      exact h2 ((wOf_eq F h1).symm.trans c.2)
  · rw [if_neg m, Bool.and_true, decide_eq_true_eq]
    constructor
    · intro h hv
      exact absurd hv h
    · intro h hv
      obtain ⟨j, h1, _⟩ := h hv
      exact m (F.memW.mpr (h1.mem F))
theorem lostAt_none (F : Fit dl (vlOf vs)) {i : Nat} : ∀ {l : List (Dd Str)} {own : Str → Option Int} {j : Nat}, lostAt dl i own l j = none ↔ ownOk own l = true ∧ ∀ q ∈ ra own l, q.2 ≠ 0 → ∃ j, Wr dl q.1 q.2 j ∧ j ≠ i
  | [], own, j => ⟨fun _ => ⟨rfl, fun q hq => nomatch hq⟩, fun _ => rfl⟩
  | x :: l, own, j => by
    by_cases c : x.w = true
    · rw [la_w c, ok_w c, ra_w c]
      exact lostAt_none F
    · cases e : own x.n with
      | some u =>
        rw [la_s c e, ok_s c e, ra_s c e]
        by_cases d : u = x.v
        · rw [if_pos d, decide_eq_true d, Bool.true_and]
          exact lostAt_none F
        · rw [if_neg d, decide_eq_false d]
          exact ⟨(fun h => nomatch h), (fun h => nomatch h.1)⟩
      | none =>
        rw [la_n c e, ok_n c e, ra_n c e]
        by_cases d : badR dl i x.n x.v = true
        · rw [if_pos d]
          refine ⟨fun h => (nomatch h), fun h => ?_⟩
          exact absurd d ((bad_iff F).mpr (h.2 (x.n, x.v) (.head _)))
        · rw [if_neg d, lostAt_none F]
          refine and_congr_right fun _ => ⟨fun h q hq => ?_, fun h q hq => h q (.tail _ hq)⟩
          rcases List.mem_cons.mp hq with z | z
          · rw [z]
            exact (bad_iff F).mp d
          · exact h q z
theorem lost_iff (F : Fit dl (vlOf vs)) : lostOf dl = none ↔ NoLost dl := by
  constructor
  · intro h i hi
    unfold lostOf at h
    rw [List.findSome?_eq_none_iff] at h
    have := h i (List.mem_range.mpr hi)
    rw [Option.map_eq_none_iff] at this
    exact (lostAt_none F).mp this
  · intro h
    exact lostOf_none fun i hi => (lostAt_none F).mpr (h i hi)
theorem zip_at {l : List Int} {p : Int × Int} : p ∈ l.zip (l.drop 1) ↔ ∃ a : Nat, l[a]? = some p.1 ∧ l[a + 1]? = some p.2 := by
  constructor
  · intro h
    obtain ⟨a, ha⟩ := List.getElem?_of_mem h
    rw [List.getElem?_zip_eq_some, List.getElem?_drop] at ha
    exact ⟨a, ha.1, by rw [Nat.add_comm]; exact ha.2⟩
  · rintro ⟨a, h1, h2⟩
    refine List.mem_of_getElem? (i := a) ?_
    rw [List.getElem?_zip_eq_some, List.getElem?_drop]
    exact ⟨h1, by rw [Nat.add_comm]; exact h2⟩
/-- the list of reasons tells just the edges -/
theorem ed_iff (G : Good dl vs) {i j : Nat} : (∃ r ∈ allL dl vs timed, r.i = i ∧ r.j = j ∧ i ≠ j) ↔ Ed dl (vlOf vs) timed i j := by
  have F := G.fit
  have seen : ∀ {r : Rn Str} {k : Nat} {q : Str × Int}, r ∈ seenL dl (vlOf vs) k q.1 q.2 → r.i = wOf dl q.1 q.2 ∧ r.j = k ∧ q.2 ∈ vlOf vs q.1 := fun {r k q} h => by
    unfold seenL at h
    by_cases c : q.2 ∈ vlOf vs q.1
    · rw [if_pos c] at h
      rw [List.mem_singleton.mp h]
      exact ⟨rfl, rfl, c⟩
    · rw [if_neg c] at h
      cases h
  have next : ∀ {n : Str} {v y : Int}, y ∈ nextL (vlOf vs) n v ↔ ∃ a : Nat, (0 :: vlOf vs n)[a]? = some v ∧ (0 :: vlOf vs n)[a + 1]? = some y := fun {n v y} => by
    have nd : (0 :: vlOf vs n).Nodup := List.nodup_cons.mpr ⟨F.no0 n, F.nd n⟩
    unfold nextL
    by_cases c : v ∈ 0 :: vlOf vs n
    · rw [if_pos c]
      have hlt : (0 :: vlOf vs n).idxOf v < (0 :: vlOf vs n).length := List.idxOf_lt_length_of_mem c
      have hat : (0 :: vlOf vs n)[(0 :: vlOf vs n).idxOf v]? = some v := by
        rw [List.getElem?_eq_getElem hlt, List.getElem_idxOf hlt]
      generalize 0 :: vlOf vs n = l at nd hlt hat
      have t1 : (l.drop (l.idxOf v + 1)).take 1 = (l[l.idxOf v + 1]?).toList := by
        cases e : l.drop (l.idxOf v + 1) with
        | nil =>
          have : l[l.idxOf v + 1]? = none := by
            rw [List.getElem?_eq_none_iff]
            exact List.drop_eq_nil_iff.mp e
          rw [this]
          rfl
        | cons z t =>
          have : l[l.idxOf v + 1]? = some z := by
            have := List.getElem?_drop (xs := l) (i := l.idxOf v + 1) (j := 0)
            rw [e] at this
            exact this.symm
          rw [this]
          rfl
      rw [t1]
      constructor
      · intro h
        exact ⟨_, hat, by cases e : l[l.idxOf v + 1]? with
          | none =>
            rw [e] at h
            cases h
          | some z =>
            rw [e] at h
            have : y = z := by simpa using h
            rw [this]⟩
      · rintro ⟨a, h1, h2⟩
        have := idx_get nd h1
        rw [this, h2]
        simp
    · rw [if_neg c]
      constructor
      · intro h
        cases h
      · rintro ⟨a, h1, _⟩
        exact absurd (List.mem_of_getElem? h1) c
  have raD : ∀ {k : Nat} {q : Str × Int}, q ∈ ra own0 (dsOf dl k) → k < dl.length := fun {k q} h => by
    by_cases c : k < dl.length
    · exact c
    · have : dsOf dl k = [] := by
        unfold dsOf
        rw [List.getElem?_eq_none_iff.mpr (by omega)]
        rfl
      rw [this] at h
      cases h
  constructor
  · rintro ⟨r, hr, rfl, rfl, ne⟩
    refine ⟨ne, ?_⟩
    unfold allL at hr
    rcases List.mem_append.mp hr with hr | hr
    · rcases List.mem_append.mp hr with hr | hr
      · obtain ⟨p, hp, hr⟩ := List.mem_flatMap.mp hr
        obtain ⟨q, hq, rfl⟩ := List.mem_map.mp hr
        have hv := (vlOf_mem G.kn hp).2
        obtain ⟨a, h1, h2⟩ := zip_at.mp hq
        rw [← hv] at h1 h2
        exact .inl ⟨p.1, a, q.1, q.2, h1, h2, wOf_wr F (List.mem_of_getElem? h1), wOf_wr F (List.mem_of_getElem? h2)⟩
      · obtain ⟨k, hk, hr⟩ := List.mem_flatMap.mp hr
        obtain ⟨q, hq, hr⟩ := List.mem_flatMap.mp hr
        unfold readL at hr
        rcases List.mem_append.mp hr with hr | hr
        · obtain ⟨e1, e2, c⟩ := seen hr
          rw [e1, e2]
          exact .inr (.inl ⟨List.mem_range.mp hk, q.1, q.2, hq, wOf_wr F c⟩)
        · obtain ⟨y, hy, rfl⟩ := List.mem_map.mp hr
          obtain ⟨a, h1, h2⟩ := next.mp hy
          exact .inr (.inr (.inl ⟨List.mem_range.mp hk, q.1, q.2, a, y, hq, h1, h2, wOf_wr F (nextL_mem hy)⟩))
    · by_cases c : timed = true
      · rw [if_pos c] at hr
        obtain ⟨a, ha, hr⟩ := List.mem_flatMap.mp hr
        obtain ⟨b, hb, hr⟩ := List.mem_filterMap.mp hr
        by_cases c2 : (beOf dl a).2 < (beOf dl b).1
        · rw [if_pos c2] at hr
          cases hr
          have la := List.mem_range.mp ha
          have lb := List.mem_range.mp hb
          have h1 : dl[a]? = some dl[a] := List.getElem?_eq_getElem la
          have h2 : dl[b]? = some dl[b] := List.getElem?_eq_getElem lb
          rw [beOf_get h1, beOf_get h2] at c2
          exact .inr (.inr (.inr ⟨c, _, _, h1, h2, c2⟩))
        · rw [if_neg c2] at hr
          cases hr
      · rw [if_neg c] at hr
        cases hr
  · rintro ⟨ne, h⟩
    unfold allL
    rcases h with ⟨n, a, x, y, h1, h2, w1, w2⟩ | ⟨hj, n, v, hq, w1⟩ | ⟨hi, n, v, a, y, hq, h1, h2, w2⟩ | ⟨ht, d, d', h1, h2, lt⟩
    · obtain ⟨p, hp, rfl, _⟩ := vlOf_some (List.mem_of_getElem? h1)
      have hv := (vlOf_mem G.kn hp).2
      rw [hv] at h1 h2
      refine ⟨⟨wOf dl p.1 x, wOf dl p.1 y, .after, some p.1⟩, List.mem_append_left _ (List.mem_append_left _ (List.mem_flatMap.mpr ⟨p, hp, List.mem_map.mpr ⟨(x, y), zip_at.mpr ⟨a, h1, h2⟩, rfl⟩⟩)), wOf_eq F w1, wOf_eq F w2, ne⟩
    · refine ⟨⟨wOf dl n v, j, .seen, some n⟩, List.mem_append_left _ (List.mem_append_right _ (List.mem_flatMap.mpr ⟨j, List.mem_range.mpr hj, List.mem_flatMap.mpr ⟨(n, v), hq, List.mem_append_left _ ?_⟩⟩)), wOf_eq F w1, rfl, ne⟩
      unfold seenL
      rw [if_pos (w1.mem F)]
      exact .head _
    · exact ⟨⟨i, wOf dl n y, .missed, some n⟩, List.mem_append_left _ (List.mem_append_right _ (List.mem_flatMap.mpr ⟨i, List.mem_range.mpr hi, List.mem_flatMap.mpr ⟨(n, v), hq, List.mem_append_right _ (List.mem_map.mpr ⟨y, next.mpr ⟨a, h1, h2⟩, rfl⟩)⟩⟩)), rfl, wOf_eq F w2, ne⟩
    · refine ⟨⟨i, j, .time, none⟩, List.mem_append_right _ ?_, rfl, rfl, ne⟩
      rw [if_pos ht]
      refine List.mem_flatMap.mpr ⟨i, List.mem_range.mpr (List.getElem?_eq_some_iff.mp h1).1, List.mem_filterMap.mpr ⟨j, List.mem_range.mpr (List.getElem?_eq_some_iff.mp h2).1, ?_⟩⟩
      rw [beOf_get h1, beOf_get h2, if_pos lt]
/-- what the checker asks of an order is that it stands -/
theorem asks_iff (G : Good dl vs) {ns : List Nat} (pm : ns.Perm (List.range dl.length)) : (lostOf dl = none ∧ ∀ r ∈ allL dl vs timed, r.i ≠ r.j → ns.idxOf r.i ≤ ns.idxOf r.j) ↔ Stands dl (vlOf vs) timed ns := by
  rw [stands_iff G.fit (fun d hd => (G.dl d hd).2.1) timed pm, lost_iff G.fit]
  refine and_congr_right fun _ => ⟨fun h i j e => ?_, fun h r hr ne => ?_⟩
  · obtain ⟨r, hr, rfl, rfl, ne⟩ := (ed_iff G).mpr e
    have le := h r hr ne
    have hi : r.i ∈ ns := pm.mem_iff.mpr (List.mem_range.mpr (allL_ok G hr).i)
    have hne : ns.idxOf r.i ≠ ns.idxOf r.j := fun z => ne (idx_inj hi z)
    omega
  · have := h r.i r.j ((ed_iff G).mp ⟨r, hr, rfl, rfl, ne⟩)
    omega
theorem OrdBy.perm {rs : List (Rn Str)} {n : Nat} {ns : List Nat} (h : OrdBy n rs ns) (hl : ns.length = n) : ns.Perm (List.range n) := perm_range n ns hl fun k hk => by
  by_cases c : k ∈ ns
  · exact c
  · have := nat_nodup_len (k :: ns) (List.range n) (List.nodup_cons.mpr ⟨c, h.nd⟩) fun x hx => by
      rcases List.mem_cons.mp hx with z | z
      · rw [z]
        exact List.mem_range.mpr hk
      · exact List.mem_range.mpr (h.lt x z)
    rw [List.length_cons, List.length_range] at this
    omega
/-- an order that is told stands -/
theorem told_order (G : Good dl vs) {ns : List Nat} (h : Told dl vs timed (ordD ns)) : ns.Perm (List.range dl.length) ∧ Stands dl (vlOf vs) timed ns := by
  generalize e : ordD ns = d at h
  cases h with
  | lost _ => exact absurd e.symm los_ord
  | ring _ _ _ _ _ _ _ => exact absurd e.symm ring_ord
  | @order rs ns' hl kn ob oe len =>
    have := ord_inj e
    subst this
    have pm := ob.perm len
    refine ⟨pm, (asks_iff G pm).mp ⟨hl, fun r hr ne => ?_⟩⟩
    have hj : r.j ∈ ns := pm.mem_iff.mpr (List.mem_range.mpr (allL_ok G hr).j)
    obtain ⟨p, q, e⟩ := List.append_of_mem hj
    have hi := ob.ahead p r.j q e r ((kn.2 r).mpr ⟨hr, ne⟩) rfl
    exact Nat.le_of_lt ((pos_lt ob.nd e).mpr hi)
/-- what is told lets the checker by -/
theorem told_ask (G : Good dl vs) {d : D} (h : Told dl vs timed d) : Ask dl vs timed d true := by
  cases h with
  | lost hl => exact .inl ⟨_, rfl, hl, rfl⟩
  | ring hl kn ob oe _ ir lr => exact .inr (.inr ⟨_, _, rfl, hl, kn, ir, lr, rfl⟩)
  | order hl kn ob oe len =>
    obtain ⟨pm, st⟩ := told_order G (.order hl kn ob oe len)
    exact .inr (.inl ⟨_, rfl, pm, (decide_eq_true ((asks_iff G pm).mpr st)).symm⟩)
/-- where some order stands, an order is told -/
theorem told_some (G : Good dl vs) {o : List Nat} (pm : o.Perm (List.range dl.length)) (st : Stands dl (vlOf vs) timed o) {d : D} (h : Told dl vs timed d) : ∃ ns, d = ordD ns := by
  obtain ⟨nl, ed⟩ := (asks_iff G pm).mpr st
  cases h with
  | lost hl =>
    rw [nl] at hl
    cases hl
  | order => exact ⟨_, rfl⟩
  | @ring rs ns ring hl kn ob oe ne ir lr =>
    exfalso
    have le : ns.length ≤ dl.length := by
      have := nat_nodup_len ns (List.range dl.length) ob.nd fun x hx => List.mem_range.mpr (ob.lt x hx)
      rwa [List.length_range] at this
    -- the first in o that is not in ns
    obtain ⟨x, h1, h2⟩ := st_missing ns dl.length (by omega)
    obtain ⟨k, _, ⟨y, hy, hyn, hk⟩, least⟩ := st_least (p := fun k => ∃ y, y < dl.length ∧ y ∉ ns ∧ o.idxOf y = k) (o.idxOf x) ⟨x, h1, h2, rfl⟩
    obtain ⟨r, hr, hj, hi⟩ := oe y hy hyn
    obtain ⟨m1, m2⟩ := (kn.2 r).mp hr
    have lt : o.idxOf r.i < o.idxOf r.j := by
      have := ed r m1 m2
      have hio : r.i ∈ o := pm.mem_iff.mpr (List.mem_range.mpr (allL_ok G m1).i)
      have : o.idxOf r.i ≠ o.idxOf r.j := fun z => m2 (idx_inj hio z)
      omega
    rw [hj, hk] at lt
    exact least _ lt ⟨r.i, (allL_ok G m1).i, hi, rfl⟩
end
end Tk

set_option Elab.async false
set_option linter.all false
set_option maxRecDepth 100000
set_option maxHeartbeats 2000000
/-! Tj: what changes objects that are known by their address. -/
namespace Tk
open PySem PySem.Spec PyProof.Rows L2
/-- an object that somebody may change: a list or a dict by its datum; a dict of lists of ints, each a list of its own -/
inductive Res where
  | cell (p : Addr) (d : D)
  | vers (p : Addr) (cs : List (Str × Addr × List Int))
def Res.adrs : Res → List Addr
  | .cell p _ => [p]
  | .vers p cs => p :: cs.map (·.2.1)
def Res.at (F : FS) (H : Hp) : Res → Prop
  | .cell p d => MutC F H d p
  | .vers p cs => H p = some (.dK (cs.map fun c => (.inr c.1, V.ref c.2.1))) ∧ ∀ c ∈ cs, H c.2.1 = some (.lst (c.2.2.map .int))
abbrev Zs := List Res
def adrs (Z : Zs) : List Addr := Z.flatMap Res.adrs
structure ZOk (F : FS) (H : Hp) (Z : Zs) : Prop where
  at_ : ∀ z ∈ Z, z.at F H
  nf : ∀ a ∈ adrs Z, ¬ F a
  nd : (adrs Z).Nodup
theorem Res.there {F : FS} {H : Hp} {z : Res} (h : z.at F H) : ∀ a ∈ z.adrs, H a ≠ none := fun a ha => by
  cases z with
  | cell p d =>
    rw [List.mem_singleton.mp ha]
    exact MutC.ne h
  | vers p cs =>
    rcases List.mem_cons.mp ha with e | e
    · rw [e, h.1]
      exact fun z => nomatch z
    · obtain ⟨c, hc, rfl⟩ := List.mem_map.mp e
      rw [h.2 c hc]
      exact fun z => nomatch z
theorem ZOk.there {F : FS} {H : Hp} {Z : Zs} (h : ZOk F H Z) : ∀ a ∈ adrs Z, H a ≠ none := fun a ha => by
  obtain ⟨z, hz, ha⟩ := List.mem_flatMap.mp ha
  exact Res.there (h.at_ z hz) a ha
/-- where its addresses hold what they held -/
theorem Res.to {F F' : FS} {H H' : Hp} (m : Mo F H F' H') {z : Res} (h : z.at F H) (k : ∀ a ∈ z.adrs, H' a = H a) : z.at F' H' := by
  cases z with
  | cell p d => exact MutC.at m (k p (.head _)) h
  | vers p cs => exact ⟨(k p (.head _)).trans h.1, fun c hc => (k _ (.tail _ (List.mem_map_of_mem hc))).trans (h.2 c hc)⟩
/-- neither one's own without address nor under lock -/
def plE : Ent → Prop
  | .mu _ => False
  | .lk _ _ => False
  | _ => True
structure EnvJ (B : Bs) (F : FS) (H : Hp) (σ : L2.St) (ρ : Ro) (Z : Zs) : Prop where
  e : EnvR B F H σ ρ
  z : ZOk F H Z
  nb : ∀ a ∈ adrs Z, B.H a = none
  pl : ∀ (i : Nat) (x : Ent), ρ[i]? = some x → plE x
theorem ZOk.gw {F F' : FS} {H H' : Hp} {Z : Zs} (h : ZOk F H Z) (g : Gw F H F' H') : ZOk F' H' Z := by
  have keep : ∀ a, H a ≠ none → H' a = H a := fun a ha => by
    cases c : H a with
    | none => exact absurd c ha
    | some o => exact g.s a o c
  refine ⟨fun z hz => Res.to g.mo (h.at_ z hz) fun a ha => keep a (Res.there (h.at_ z hz) a ha), fun a ha f => ?_, h.nd⟩
  rcases g.n a f with q | q
  · exact h.nf a ha q
  · exact h.there a ha q
section
variable {B : Bs} {F F' : FS} {H H' : Hp} {σ : L2.St} {ρ ρ' : Ro} {Z Z' : Zs}
theorem EnvJ.gw (e : EnvJ B F H σ ρ Z) (g : Gw F H F' H') : EnvJ B F' H' σ ρ Z := ⟨e.e.gw g, e.z.gw g, e.nb, e.pl⟩
theorem EnvJ.set (e : EnvJ B F H σ ρ Z) (i : Nat) {d : D} {v : V} (r : Rp F H d v) : EnvJ B F H (σ.set i (some v)) (ρ.set i (Ent.im d)) Z := ⟨e.e.set i r, e.z, e.nb, fun j x h => by
  by_cases c : i = j
  · subst c
    rw [← (get_set_self h).1]
    exact True.intro
  · rw [List.getElem?_set_ne c] at h
    exact e.pl j x h⟩
/-- a slot that points to p -/
theorem EnvR.setP (e : EnvR B F H σ ρ) (i : Nat) (p : Addr) : EnvR B F H (σ.set i (some (.ref p))) (ρ.set i (Ent.ptr p)) where
  len := by rw [List.length_set, List.length_set, e.len]
  im := fun j d' h => by
    by_cases c : i = j
    · subst c
      exact nomatch (get_set_self h).1
    · rw [List.getElem?_set_ne c] at h ⊢
      exact e.im j d' h
  mu := fun j d' h => by
    by_cases c : i = j
    · subst c
      exact nomatch (get_set_self h).1
    · rw [List.getElem?_set_ne c] at h ⊢
      exact e.mu j d' h
  dis := fun j k d1 d2 q h1 h2 h3 h4 => by
    by_cases c : i = j
    · subst c
      exact nomatch (get_set_self h1).1
    · by_cases c2 : i = k
      · subst c2
        exact nomatch (get_set_self h2).1
      · rw [List.getElem?_set_ne c] at h1 h3
        rw [List.getElem?_set_ne c2] at h2 h4
        exact e.dis j k d1 d2 q h1 h2 h3 h4
  lk := fun j a d' h => by
    by_cases c : i = j
    · subst c
      exact nomatch (get_set_self h).1
    · rw [List.getElem?_set_ne c] at h ⊢
      exact e.lk j a d' h
  pt := fun j a h => by
    by_cases c : i = j
    · subst c
      obtain ⟨q, l⟩ := get_set_self h
      cases q
      exact List.getElem?_set_self (by rw [e.len]; exact l)
    · rw [List.getElem?_set_ne c] at h ⊢
      exact e.pt j a h
  fh := e.fh
  bf := e.bf
  bs := e.bs
  bn := e.bn
theorem EnvJ.setP (e : EnvJ B F H σ ρ Z) (i : Nat) (p : Addr) : EnvJ B F H (σ.set i (some (.ref p))) (ρ.set i (Ent.ptr p)) Z := ⟨EnvR.setP e.e i p, e.z, e.nb, fun j x h => by
  by_cases c : i = j
  · subst c
    rw [← (get_set_self h).1]
    exact True.intro
  · rw [List.getElem?_set_ne c] at h
    exact e.pl j x h⟩
theorem EnvJ.forget (e : EnvJ B F H σ ρ Z) (vs : List Nat) : EnvJ B F H σ (wipeE ρ vs) Z := ⟨e.e.forget vs, e.z, e.nb, fun j x => by
  induction vs with
  | nil => exact e.pl j x
  | cons v vs ih =>
    intro h
    have h : ((wipeE ρ vs).set v Ent.no)[j]? = some x := h
    by_cases c : v = j
    · subst c
      rw [← (get_set_self h).1]
      exact True.intro
    · rw [List.getElem?_set_ne c] at h
      exact ih h⟩
/-- the heap is changed at addresses of the Z, the rest stands -/
theorem EnvJ.zap (e : EnvJ B F H σ ρ Z) (hF : ∀ a, F a → F' a) (hs : ∀ a o, a ∉ adrs Z → H a = some o → H' a = some o) (hn : ∀ a, F' a → F a ∨ H a = none) (hh : ∀ a, F' a → H' a ≠ none) (z' : ZOk F' H' Z') (hz : ∀ a ∈ adrs Z', a ∈ adrs Z ∨ H a = none) :
    EnvJ B F' H' σ ρ Z' ∧ Fr F H F' H' := by
  have mo : ∀ a, F a → H' a = H a := fun a f => by
    cases c : H a with
    | none => exact absurd c (e.e.fh a f)
    | some o => exact hs a o (fun m => e.z.nf a m f) c
  have fr : Fr F H F' H' := ⟨hF, mo⟩
  refine ⟨⟨⟨e.e.len, fun i d h => ?_, fun i d h => (e.pl i _ h).elim, fun i j d1 d2 p h => (e.pl i _ h).elim, fun i a kds h => (e.pl i _ h).elim, e.e.pt, hh, fun a f => hF a (e.e.bf a f), fun a o h => ?_, fun a f => ?_⟩, z', fun a ha => ?_, e.pl⟩, fr⟩
  · obtain ⟨v, h1, h2⟩ := e.e.im i d h
    exact ⟨v, h1, Rp.mo fr.mo d v h2⟩
  · exact hs a o (fun m => by rw [e.nb a m] at h; cases h) (e.e.bs a o h)
  · rcases hn a f with q | q
    · exact e.e.bn a q
    · exact .inr (e.e.bs.free q)
  · rcases hz a ha with q | q
    · exact e.nb a q
    · exact e.e.bs.free q
end
/-! ### expressions -/
def EvJ (te : TE) (ρ : Ro) (Z : Zs) (P : D → Zs → Prop) : Prop := ∀ B F H σ, EnvJ B F H σ ρ Z → ∀ Q : VK, (∀ d v F' H' Z', P d Z' → EnvJ B F' H' σ ρ Z' → Fr F H F' H' → Rp F' H' d v → Q v H') → te σ H Q
def EtJ (tt : TT) (ρ : Ro) (Z : Zs) (P : Bool → Zs → Prop) : Prop := ∀ B F H σ, EnvJ B F H σ ρ Z → ∀ Q : Bool → Hp → Prop, (∀ b F' H' Z', P b Z' → EnvJ B F' H' σ ρ Z' → Fr F H F' H' → Q b H') → tt σ H Q
section
variable {ρ : Ro} {Z : Zs} {te ta tb : TE} {tt : TT} {d e : D} {P : D → Zs → Prop}
theorem ej_ev (h : Ev te ρ d) (p : P d Z) : EvJ te ρ Z P := fun B F H σ en Q k => h B F H σ en.e _ fun v F' H' g r => k d v F' H' Z p (en.gw g) (g.fr en.e.fh) r
theorem ej_evp {P0 : D → Prop} (h : EvP te ρ P0) (p : ∀ d, P0 d → P d Z) : EvJ te ρ Z P := fun B F H σ en Q k => h B F H σ en.e _ fun d v F' H' q g r => k d v F' H' Z (p d q) (en.gw g) (g.fr en.e.fh) r
theorem ej_to {P' : D → Zs → Prop} (h : EvJ te ρ Z P') (w : ∀ d Z', P' d Z' → P d Z') : EvJ te ρ Z P := fun B F H σ en Q k => h B F H σ en Q fun d v F' H' Z' p e' fr r => k d v F' H' Z' (w d Z' p) e' fr r
theorem ej_op {r : R2} {Pa : D → Zs → Prop} (ha : EvJ ta ρ Z Pa) (hb : ∀ d Z1, Pa d Z1 → EvJ tb ρ Z1 fun e Z2 => ∃ f, RvD r d e f ∧ P f Z2) : EvJ (tOp r ta tb) ρ Z P := fun B F H σ en Q k =>
  ha B F H σ en _ fun d x F1 H1 Z1 p1 en1 fr1 r1 => hb d Z1 p1 B F1 H1 σ en1 _ fun e y F2 H2 Z2 ⟨f, rv, p2⟩ en2 fr2 r2 => rv F2 H2 x y Q en2.e.fh (Rp.mo fr2.mo d x r1) r2 fun v F3 H3 g3 r3 =>
    k f v F3 H3 Z2 p2 (en2.gw g3) ((fr1.trans fr2).trans (g3.fr en2.e.fh)) r3
theorem et_valJ {P : Bool → Zs → Prop} (h : EvJ te ρ Z fun d Z' => ∃ b, d = .bool b ∧ P b Z') : EtJ (tTest te) ρ Z P := fun B F H σ en Q k => h B F H σ en _ fun d x F1 H1 Z1 ⟨b, e, p⟩ en1 fr r => by
  subst e
  exact ⟨b, r, k b F1 H1 Z1 p en1 fr⟩
theorem et_ofT {P : Bool → Zs → Prop} {b : Bool} (h : EvT tt ρ b) (p : P b Z) : EtJ tt ρ Z P := fun B F H σ en Q k => h B F H σ en.e _ fun F' H' g => k b F' H' Z p (en.gw g) (g.fr en.e.fh)
theorem et_andJ {t u : TT} {P Pa : Bool → Zs → Prop} (h1 : EtJ t ρ Z Pa) (h2 : ∀ Z1, Pa true Z1 → EtJ u ρ Z1 P) (h3 : ∀ Z1, Pa false Z1 → P false Z1) : EtJ (tAnd t u) ρ Z P := fun B F H σ en Q k => h1 B F H σ en _ fun b F1 H1 Z1 p en1 fr => by
  cases b with
  | true =>
    rw [if_pos rfl]
    exact h2 Z1 p B F1 H1 σ en1 Q fun b F2 H2 Z2 p2 en2 fr2 => k b F2 H2 Z2 p2 en2 (fr.trans fr2)
  | false =>
    rw [if_neg Bool.false_ne_true]
    exact k false F1 H1 Z1 (h3 Z1 p) en1 fr
end
end Tk

set_option Elab.async false
set_option linter.all false
set_option maxRecDepth 100000
set_option maxHeartbeats 2000000
/-! Tj2: arguments, calls, statements of that logic. -/
namespace Tk
open PySem PySem.Spec PyProof.Rows L2
/-- what is handed over: a datum, an object by its address, a tuple of two objects and a datum -/
inductive A where
  | d (d : D)
  | p (a : Addr)
  | t (a b : Addr) (d : D)
def RpA (F : FS) (H : Hp) : A → V → Prop
  | .d d, v => Rp F H d v
  | .p a, v => v = .ref a
  | .t a b d, v => ∃ T x, v = .ref T ∧ H T = some (.tup [.ref a, .ref b, x]) ∧ Rp F H d x
def RpAs (F : FS) (H : Hp) : List A → List V → Prop
  | [], vs => vs = []
  | a :: as, vs => ∃ v ws, vs = v :: ws ∧ RpA F H a v ∧ RpAs F H as ws
/-- no tuple of objects among the arguments -/
def A.flat : A → Bool
  | .t _ _ _ => false
  | _ => true
theorem RpA.mo {F F' : FS} {H H' : Hp} (m : Mo F H F' H') : ∀ {a : A} {v : V}, a.flat = true → RpA F H a v → RpA F' H' a v
  | .d d, v, _, h => Rp.mo m d v h
  | .p _, _, _, h => h
  | .t _ _ _, _, h, _ => nomatch h
theorem RpAs.len {F : FS} {H : Hp} : ∀ {as : List A} {vs : List V}, RpAs F H as vs → vs.length = as.length
  | [], vs, h => by
    have h : vs = [] := h
    rw [h]
    rfl
  | a :: as, vs, h => by
    obtain ⟨v, ws, rfl, _, q⟩ := h
    rw [List.length_cons, List.length_cons, q.len]
/-- the heap has grown and is changed at the addresses of the Z alone -/
structure GwJ (F : FS) (H : Hp) (Z : Zs) (F' : FS) (H' : Hp) (Z' : Zs) : Prop where
  f : ∀ a, F a → F' a
  s : ∀ a o, a ∉ adrs Z → H a = some o → H' a = some o
  n : ∀ a, F' a → F a ∨ H a = none
  h : ∀ a, F' a → H' a ≠ none
  z : ∀ a ∈ adrs Z', a ∈ adrs Z ∨ H a = none
def CtJ (Pre : List A → Zs → Prop) (R : List A → Zs → A → Zs → Prop) : Sp := fun vs H Q _ => ∃ (F : FS) (es : List A) (Z : Zs), (∀ a, F a → H a ≠ none) ∧ RpAs F H es vs ∧ ZOk F H Z ∧ Pre es Z ∧
  ∀ v F' H' r Z', R es Z r Z' → GwJ F H Z F' H' Z' → ZOk F' H' Z' → RpA F' H' r v → Q v H'
def EaJ (ta : TA) (ρ : Ro) (Z : Zs) (P : List A → Zs → Prop) : Prop := ∀ B F H σ, EnvJ B F H σ ρ Z → ∀ Q : List V → Hp → Prop, (∀ as vs F' H' Z', P as Z' → EnvJ B F' H' σ ρ Z' → Fr F H F' H' → RpAs F' H' as vs → (∀ a ∈ as, a.flat = true) → Q vs H') → ta σ H Q
theorem mem_adrs_app {Z Z' : Zs} {a : Addr} : a ∈ adrs (Z ++ Z') ↔ a ∈ adrs Z ∨ a ∈ adrs Z' := by
  unfold adrs
  rw [List.flatMap_append, List.mem_append]
theorem adrs_perm {Z Z' : Zs} (p : Z.Perm Z') : (adrs Z).Perm (adrs Z') := by
  unfold adrs
  exact p.flatMap_right _
theorem ZOk.perm {F : FS} {H : Hp} {Z Z' : Zs} (h : ZOk F H Z) (p : Z'.Perm Z) : ZOk F H Z' := ⟨fun z hz => h.at_ z (p.mem_iff.mp hz), fun a ha => h.nf a ((adrs_perm p).mem_iff.mp ha), (adrs_perm p).nodup_iff.mpr h.nd⟩
theorem EnvJ.perm {B : Bs} {F : FS} {H : Hp} {σ : L2.St} {ρ : Ro} {Z Z' : Zs} (h : EnvJ B F H σ ρ Z) (p : Z'.Perm Z) : EnvJ B F H σ ρ Z' := ⟨h.e, h.z.perm p, fun a ha => h.nb a ((adrs_perm p).mem_iff.mp ha), h.pl⟩
theorem ZOk.left {F : FS} {H : Hp} {Z Z' : Zs} (h : ZOk F H (Z ++ Z')) : ZOk F H Z := ⟨fun z hz => h.at_ z (List.mem_append_left _ hz), fun a ha => h.nf a (mem_adrs_app.mpr (.inl ha)), by
  have := h.nd
  unfold adrs at this ⊢
  rw [List.flatMap_append] at this
  exact (List.nodup_append.mp this).1⟩
theorem ZOk.apart {F : FS} {H : Hp} {Z Z' : Zs} (h : ZOk F H (Z ++ Z')) {a : Addr} (h1 : a ∈ adrs Z) (h2 : a ∈ adrs Z') : False := by
  have := h.nd
  unfold adrs at this
  rw [List.flatMap_append] at this
  exact (List.nodup_append.mp this).2.2 a h1 a h2 rfl
section
variable {ρ : Ro} {Z : Zs} {te ta : TE} {tr : TA} {P : D → Zs → Prop} {Pre : List A → Zs → Prop} {R : List A → Zs → A → Zs → Prop} {E : XK}
theorem ea_nilJ {P : List A → Zs → Prop} (p : P [] Z) : EaJ tNil ρ Z P := fun B F H σ en Q k => k [] [] F H Z p en Fr.refl rfl fun a h => nomatch h
theorem ea_d {P : List A → Zs → Prop} {Pa : D → Zs → Prop} (h : EvJ ta ρ Z Pa) (hr : ∀ d Z1, Pa d Z1 → EaJ tr ρ Z1 fun as Z2 => P (.d d :: as) Z2) : EaJ (tCons ta tr) ρ Z P := fun B F H σ en Q k =>
  h B F H σ en _ fun d v F1 H1 Z1 p1 en1 fr1 r1 => hr d Z1 p1 B F1 H1 σ en1 _ fun as vs F2 H2 Z2 p2 en2 fr2 r2 fl => k (.d d :: as) (v :: vs) F2 H2 Z2 p2 en2 (fr1.trans fr2) ⟨v, vs, rfl, Rp.mo fr2.mo d v r1, r2⟩ fun a ha => by
    rcases List.mem_cons.mp ha with z | z
    · rw [z]
      rfl
    · exact fl a z
theorem ea_p {P : List A → Zs → Prop} {i : Nat} {a : Addr} (hi : ρ[i]? = some (Ent.ptr a)) (hr : EaJ tr ρ Z fun as Z2 => P (.p a :: as) Z2) : EaJ (tCons (tVar i) tr) ρ Z P := fun B F H σ en Q k =>
  ⟨.ref a, en.e.pt i a hi, hr B F H σ en _ fun as vs F2 H2 Z2 p2 en2 fr2 r2 fl => k (.p a :: as) (.ref a :: vs) F2 H2 Z2 p2 en2 fr2 ⟨_, vs, rfl, rfl, r2⟩ fun x hx => by
    rcases List.mem_cons.mp hx with z | z
    · rw [z]
      rfl
    · exact fl x z⟩
/-- a call that changes objects of the Z0 -/
theorem ej_callA {Pa : List A → Zs → Prop} {PA : A → Zs → Prop} (ha : EaJ tr ρ Z Pa) (hc : ∀ es Z1, Pa es Z1 → ∃ Z0 Zr, Z1.Perm (Z0 ++ Zr) ∧ Pre es Z0 ∧ ∀ r Z', R es Z0 r Z' → ∃ Zf, Zf.Perm (Z' ++ Zr) ∧ PA r Zf) :
    ∀ B F H σ, EnvJ B F H σ ρ Z → ∀ Q : VK, (∀ r v F' H' Z', PA r Z' → EnvJ B F' H' σ ρ Z' → Fr F H F' H' → RpA F' H' r v → Q v H') → tCall (CtJ Pre R) [] E tr σ H Q := fun B F H σ en Q k =>
  ha B F H σ en _ fun es vs F1 H1 Z1 p1 en1 fr1 r1 fl => by
    obtain ⟨Z0, Zr, pm, pre, hR⟩ := hc es Z1 p1
    have en2 := en1.perm pm.symm
    refine ⟨F1, es, Z0, en1.e.fh, by rw [List.append_nil]; exact r1, en2.z.left, pre, fun v F' H' r Z' hr g zo rv => ?_⟩
    obtain ⟨Zf, pf, pa⟩ := hR r Z' hr
    -- the rest is as it was
    have sm : ∀ a ∈ adrs Zr, H' a = H1 a := fun a ha => by
      cases c : H1 a with
      | none => exact absurd c (en2.z.there a (mem_adrs_app.mpr (.inr ha)))
      | some o => exact g.s a o (fun m => en2.z.apart m ha) c
    have smF : ∀ a, F1 a → H' a = H1 a := fun a f => by
      cases c : H1 a with
      | none => exact absurd c (en1.e.fh a f)
      | some o => exact g.s a o (fun m => en2.z.nf a (mem_adrs_app.mpr (.inl m)) f) c
    have mo : Mo F1 H1 F' H' := ⟨g.f, fun a o f h => (smF a f).trans h⟩
    have zo2 : ZOk F' H' (Z' ++ Zr) := by
      refine ⟨fun z hz => ?_, fun a ha f => ?_, ?_⟩
      · rcases List.mem_append.mp hz with q | q
        · exact zo.at_ z q
        · exact Res.to mo (en2.z.at_ z (List.mem_append_right _ q)) fun a ha => sm a (List.mem_flatMap.mpr ⟨z, q, ha⟩)
      · rcases mem_adrs_app.mp ha with q | q
        · exact zo.nf a q f
        · rcases g.n a f with w | w
          · exact en2.z.nf a (mem_adrs_app.mpr (.inr q)) w
          · exact en2.z.there a (mem_adrs_app.mpr (.inr q)) w
      · unfold adrs
        rw [List.flatMap_append]
        have nd := en2.z.nd
        unfold adrs at nd
        rw [List.flatMap_append] at nd
        refine List.nodup_append.mpr ⟨zo.nd, (List.nodup_append.mp nd).2.1, fun a h1 b h2 e => ?_⟩
        subst e
        rcases g.z a h1 with w | w
        · exact en2.z.apart w h2
        · exact en2.z.there a (mem_adrs_app.mpr (.inr h2)) w
    obtain ⟨en3, fr3⟩ := en2.zap (Z' := Z' ++ Zr) g.f (fun a o na h => g.s a o (fun m => na (mem_adrs_app.mpr (.inl m))) h) g.n g.h zo2 (fun a ha => by
      rcases mem_adrs_app.mp ha with q | q
      · rcases g.z a q with w | w
        · exact .inl (mem_adrs_app.mpr (.inl w))
        · exact .inr w
      · exact .inl (mem_adrs_app.mpr (.inr q)))
    exact k r v F' H' Zf pa (en3.perm pf) (fr1.trans fr3) rv
theorem ej_call {Pa : List A → Zs → Prop} (ha : EaJ tr ρ Z Pa) (hc : ∀ es Z1, Pa es Z1 → ∃ Z0 Zr, Z1.Perm (Z0 ++ Zr) ∧ Pre es Z0 ∧ ∀ r Z', R es Z0 r Z' → ∃ d Zf, r = .d d ∧ Zf.Perm (Z' ++ Zr) ∧ P d Zf) :
    EvJ (tCall (CtJ Pre R) [] E tr) ρ Z P := fun B F H σ en Q k =>
  ej_callA (PA := fun r Z' => ∃ d, r = .d d ∧ P d Z') ha (fun es Z1 p1 => by
    obtain ⟨Z0, Zr, pm, pre, hR⟩ := hc es Z1 p1
    refine ⟨Z0, Zr, pm, pre, fun r Z' hr => ?_⟩
    obtain ⟨d, Zf, e, pf, p⟩ := hR r Z' hr
    exact ⟨Zf, pf, d, e, p⟩) B F H σ en Q fun r v F' H' Z' ⟨d, e, p⟩ en' fr rv => by
    subst e
    exact k d v F' H' Z' p en' fr rv
end
/-! ### statements -/
structure PoJ where
  nx : Ro → Zs → Prop
  rt : A → Zs → Prop
  bk : Ro → Zs → Prop := fun _ _ => False
  ct : Ro → Zs → Prop := fun _ _ => False
def SwJ (ts : TS) (ρ : Ro) (Z : Zs) (Φ : PoJ) : Prop := ∀ B F H σ, EnvJ B F H σ ρ Z → ∀ Dn : Ends, (∀ ρ' Z' F' H' σ', Φ.nx ρ' Z' → EnvJ B F' H' σ' ρ' Z' → Fr F H F' H' → Dn.nx σ' H') →
  (∀ r v F' H' Z', Φ.rt r Z' → Gw B.F B.H F' H' → ZOk F' H' Z' → (∀ a ∈ adrs Z', B.H a = none) → RpA F' H' r v → Dn.rt v H') →
  (∀ ρ' Z' F' H' σ', Φ.bk ρ' Z' → EnvJ B F' H' σ' ρ' Z' → Fr F H F' H' → Dn.bk σ' H') → (∀ ρ' Z' F' H' σ', Φ.ct ρ' Z' → EnvJ B F' H' σ' ρ' Z' → Fr F H F' H' → Dn.ct σ' H') → ts Dn σ H
section
variable {ρ : Ro} {Z : Zs} {te ta : TE} {t u : TS} {d : D} {Φ : PoJ} {i : Nat} {K : PySem.W.Frag}
theorem sj_seq (h : SwJ t ρ Z { Φ with nx := fun ρ' Z' => SwJ u ρ' Z' Φ }) : SwJ (tSeq t u) ρ Z Φ := fun B F H σ en Dn kn kr kb kc =>
  h B F H σ en { Dn with nx := u Dn } (fun ρ' Z' F' H' σ' hs en' fr => hs B F' H' σ' en' Dn (fun ρ2 Z2 F2 H2 σ2 a b c => kn ρ2 Z2 F2 H2 σ2 a b (fr.trans c)) kr (fun ρ2 Z2 F2 H2 σ2 a b c => kb ρ2 Z2 F2 H2 σ2 a b (fr.trans c)) (fun ρ2 Z2 F2 H2 σ2 a b c => kc ρ2 Z2 F2 H2 σ2 a b (fr.trans c))) kr kb kc
theorem sj_mid (M : Ro → Zs → Prop) (h : SwJ t ρ Z { Φ with nx := M }) (h2 : ∀ ρ' Z', M ρ' Z' → SwJ u ρ' Z' Φ) : SwJ (tSeq t u) ρ Z Φ := sj_seq fun B F H σ en Dn kn kr kb kc => h B F H σ en Dn (fun ρ' Z' F' H' σ' m en' fr => kn ρ' Z' F' H' σ' (h2 ρ' Z' m) en' fr) kr kb kc
theorem sj_next (h : Φ.nx ρ Z) : SwJ tNext ρ Z Φ := fun B F H σ en Dn kn kr kb kc => kn ρ Z F H σ h en Fr.refl
theorem sj_asg (h : EvJ te ρ Z fun d Z' => Φ.nx (ρ.set i (Ent.im d)) Z') : SwJ (tAsg te (gName i)) ρ Z Φ := fun B F H σ en Dn kn kr kb kc =>
  h B F H σ en _ fun d v F1 H1 Z1 p en1 fr r => kn _ Z1 F1 H1 _ p (en1.set i r) fr
theorem sj_ret (h : EvJ te ρ Z fun d Z' => Φ.rt (.d d) Z') : SwJ (tRet te) ρ Z Φ := fun B F H σ en Dn kn kr kb kc =>
  h B F H σ en _ fun d v F1 H1 Z1 p en1 fr r => kr (.d d) v F1 H1 Z1 p en1.e.ex en1.z en1.nb r
theorem sj_if {c : TT} {P : Bool → Zs → Prop} (h : EtJ c ρ Z P) (h1 : ∀ Z1, P true Z1 → SwJ t ρ Z1 Φ) (h2 : ∀ Z1, P false Z1 → SwJ u ρ Z1 Φ) : SwJ (tIfS c t u) ρ Z Φ := fun B F H σ en Dn kn kr kb kc =>
  h B F H σ en _ fun b F1 H1 Z1 p en1 fr => by
    cases b with
    | true =>
      rw [if_pos rfl]
      exact h1 Z1 p B F1 H1 σ en1 Dn (fun ρ2 Z2 F2 H2 σ2 a b c => kn ρ2 Z2 F2 H2 σ2 a b (fr.trans c)) kr (fun ρ2 Z2 F2 H2 σ2 a b c => kb ρ2 Z2 F2 H2 σ2 a b (fr.trans c)) (fun ρ2 Z2 F2 H2 σ2 a b c => kc ρ2 Z2 F2 H2 σ2 a b (fr.trans c))
    | false =>
      rw [if_neg Bool.false_ne_true]
      exact h2 Z1 p B F1 H1 σ en1 Dn (fun ρ2 Z2 F2 H2 σ2 a b c => kn ρ2 Z2 F2 H2 σ2 a b (fr.trans c)) kr (fun ρ2 Z2 F2 H2 σ2 a b c => kb ρ2 Z2 F2 H2 σ2 a b (fr.trans c)) (fun ρ2 Z2 F2 H2 σ2 a b c => kc ρ2 Z2 F2 H2 σ2 a b (fr.trans c))
/-- a new list or dict, known by its address from now on -/
theorem sj_asgN (h : EvN te ρ d) (q : ∀ p, Φ.nx (ρ.set i (Ent.ptr p)) (Z ++ [.cell p d])) : SwJ (tAsg te (gName i)) ρ Z Φ := fun B F H σ en Dn kn kr kb kc =>
  h B F H σ en.e _ fun p F1 H1 hp g1 nf m => by
    have en1 := en.gw g1
    have hn : p ∉ adrs Z := fun z => en.z.there p z hp
    refine kn _ _ F1 H1 _ (q p) ?_ (g1.fr en.e.fh)
    have e2 : EnvJ B F1 H1 σ ρ (Z ++ [.cell p d]) := by
      refine ⟨en1.e, ⟨fun z hz => ?_, fun a ha => ?_, ?_⟩, fun a ha => ?_, en1.pl⟩
      · rcases List.mem_append.mp hz with z1 | z1
        · exact en1.z.at_ z z1
        · rw [List.mem_singleton.mp z1]
          exact m
      · rcases mem_adrs_app.mp ha with z1 | z1
        · exact en1.z.nf a z1
        · have e : a = p := by simpa [adrs, Res.adrs] using z1
          rw [e]
          exact nf
      · unfold adrs
        rw [List.flatMap_append]
        refine List.nodup_append.mpr ⟨en1.z.nd, List.pairwise_singleton _ _, fun a h1 b h2 e => ?_⟩
        have e' : b = p := by simpa [Res.adrs] using h2
        exact hn (e' ▸ e ▸ h1)
      · rcases mem_adrs_app.mp ha with z1 | z1
        · exact en1.nb a z1
        · have e : a = p := by simpa [adrs, Res.adrs] using z1
          rw [e]
          exact en.e.bs.free hp
    exact e2.setP i p
end
end Tk

set_option Elab.async false
set_option linter.all false
set_option maxRecDepth 100000
set_option maxHeartbeats 2000000
/-! Tj3: the def's rule, writes, loops of that logic. -/
namespace Tk
open PySem PySem.Spec PyProof.Rows L2
/-! ### a def that changes what it is handed -/
def roA (N : List Str) (es : List A) : Ro := (es.map fun a => match a with
  | .d d => Ent.im d
  | .p p => Ent.ptr p
  | .t _ _ _ => Ent.no) ++ List.replicate (N.length - es.length) Ent.no
theorem RpAs.get {F : FS} {H : Hp} : ∀ {as : List A} {vs : List V} {i : Nat} {a : A}, RpAs F H as vs → as[i]? = some a → ∃ v, vs[i]? = some v ∧ RpA F H a v
  | [], _, i, _, _, h => by simp at h
  | a :: as, vs, 0, b, h, e => by
    obtain ⟨v, ws, rfl, p, _⟩ := h
    cases e
    exact ⟨v, rfl, p⟩
  | a :: as, vs, i + 1, b, h, e => by
    obtain ⟨v, ws, rfl, _, q⟩ := h
    exact q.get (i := i) e
/-- the heap ahead of the def without what it is handed to change -/
def less (H : Hp) (Z : Zs) : Hp := fun a => if a ∈ adrs Z then none else H a
theorem less_in {H : Hp} {Z : Zs} {a : Addr} (h : a ∈ adrs Z) : less H Z a = none := if_pos h
theorem less_out {H : Hp} {Z : Zs} {a : Addr} (h : a ∉ adrs Z) : less H Z a = H a := if_neg h
theorem envA_start {F : FS} {H : Hp} {N : List Str} {es : List A} {vs : List V} {Z : Zs} (hF : ∀ a, F a → H a ≠ none) (r : RpAs F H es vs) (z : ZOk F H Z) : EnvJ ⟨F, less H Z⟩ F H (L2.start N vs) (roA N es) Z := by
  have hl := r.len
  have split : ∀ (i : Nat) (e : Ent), (roA N es)[i]? = some e → e = Ent.no ∨ (∃ d, e = Ent.im d ∧ es[i]? = some (.d d)) ∨ ∃ p, e = Ent.ptr p ∧ es[i]? = some (.p p) := fun i e h => by
    unfold roA at h
    by_cases c : i < es.length
    · rw [List.getElem?_append_left (by rw [List.length_map]; exact c), List.getElem?_map] at h
      obtain ⟨a, ha, e'⟩ := Option.map_eq_some_iff.mp h
      cases a with
      | d d => exact .inr (.inl ⟨d, e'.symm, ha⟩)
      | p p => exact .inr (.inr ⟨p, e'.symm, ha⟩)
      | t _ _ _ => exact .inl e'.symm
    · rw [List.getElem?_append_right (by rw [List.length_map]; omega)] at h
      exact .inl (List.eq_of_mem_replicate (List.mem_of_getElem? h))
  have slot : ∀ {i : Nat} {v : V}, vs[i]? = some v → (L2.start N vs)[i]? = some (some v) := fun {i v} hv => by
    unfold L2.start
    have li : i < vs.length := (List.getElem?_eq_some_iff.mp hv).1
    rw [List.getElem?_append_left (by rw [List.length_map]; exact li), List.getElem?_map, hv]
    rfl
  refine ⟨⟨?_, fun i d h => ?_, fun i d h => ?_, fun i j d e p h => ?_, fun i a kds h => ?_, fun i a h => ?_, hF, fun _ h => h, fun a o h => ?_, fun _ h => .inl h⟩, z, fun a ha => less_in ha, fun i x h => ?_⟩
  · unfold L2.start roA
    simp [hl]
  · rcases split i _ h with c | ⟨d', c, hd⟩ | ⟨p, c, hd⟩
    · cases c
    · cases c
      obtain ⟨v, hv, rv⟩ := r.get hd
      exact ⟨v, slot hv, rv⟩
    · cases c
  · rcases split i _ h with c | ⟨d', c, hd⟩ | ⟨p, c, hd⟩ <;> cases c
  · rcases split i _ h with c | ⟨d', c, hd⟩ | ⟨p, c, hd⟩ <;> cases c
  · rcases split i _ h with c | ⟨d', c, hd⟩ | ⟨p, c, hd⟩ <;> cases c
  · rcases split i _ h with c | ⟨d', c, hd⟩ | ⟨p, c, hd⟩
    · cases c
    · cases c
    · cases c
      obtain ⟨v, hv, rv⟩ := r.get hd
      have rv : v = .ref a := rv
      rw [rv] at hv
      exact slot hv
  · have h : less H Z a = some o := h
    by_cases c : a ∈ adrs Z
    · rw [less_in c] at h
      cases h
    · rw [less_out c] at h
      exact h
  · rcases split i _ h with c | ⟨d', c, hd⟩ | ⟨p, c, hd⟩ <;> (subst c; exact True.intro)
theorem cal_J {P : Program} {w : World} {K : PySem.W.Frag} {mg : Str → Option Value} {base : Heap} {x : Str} {st : Stmt} {N ps : List Str} {k : Nat} {Pre : List A → Zs → Prop} {R : List A → Zs → A → Zs → Prop}
    (F : DefAt K mg x st ps) (S : FnScope N ps (defScope st)) (len : ∀ es Z, Pre es Z → es.length = ps.length) (sub : ∀ es Z r Z', Pre es Z → R es Z r Z' → ∀ a ∈ adrs Z, a ∈ adrs Z')
    (body : ∀ (f : Addr) (cdv : Value) (A : Around) (outer : List Env) (s : Shared) (H : Hp) (E : XK), Room k (A.deeper (envOfC x (defScope st) s.heap.objs.size f cdv)) →
      ∃ t, PSs (cxOf CX0 P w K mg base N x (defScope st) f cdv A outer s H E).nox (defBody st) t ∧ ∀ es Z, Pre es Z → SwJ t (roA N es) Z { nx := fun _ Z' => R es Z (.d .none) Z', rt := R es Z }) :
    Cal P w K mg base x ps (k + 1) (CtJ Pre R) := by
  obtain ⟨f, fd, F1, hm, hb⟩ := F.ex
  refine ⟨f, fd, hm, F1.kp, hb, F1.ok S (fun vs H Q E h => ?_) (fun cdv A outer s H vs Q E hr h => ?_)⟩
  · obtain ⟨FF, es, Z, _, r, _, p, _⟩ := h
    rw [r.len]
    exact len es Z p
  · obtain ⟨FF, es, Z, hF, r, z, p, q⟩ := h
    obtain ⟨t, pt, sw⟩ := body f cdv A outer s H E hr
    have gw : ∀ F' H' r' Z', R es Z r' Z' → Gw FF (less H Z) F' H' → ZOk F' H' Z' → (∀ a ∈ adrs Z', less H Z a = none) → GwJ FF H Z F' H' Z' := fun F' H' r' Z' hR g zo nb => by
      refine ⟨g.f, fun a o na h => g.s a o (by rw [less_out na]; exact h), fun a f => ?_, g.h, fun a ha => ?_⟩
      · rcases g.n a f with w1 | w1
        · exact .inl w1
        · by_cases c : a ∈ adrs Z
          · exact absurd f (zo.nf a (sub es Z r' Z' p hR a c))
          · rw [less_out c] at w1
            exact .inr w1
      · by_cases c : a ∈ adrs Z
        · exact .inl c
        · have := nb a ha
          rw [less_out c] at this
          exact .inr this
    refine ⟨t, pt, sw es Z p ⟨FF, less H Z⟩ FF H (L2.start N vs) (envA_start hF r z) _ (fun ρ' Z' F' H' σ' a b c => ?_) (fun r' v F' H' Z' a b c d e => q v F' H' r' Z' a (gw F' H' r' Z' a b c d) c e) (fun _ _ _ _ _ a => a.elim) fun _ _ _ _ _ a => a.elim⟩
    exact q .non F' H' (.d .none) Z' a (gw F' H' _ Z' a b.e.ex b.z b.nb) b.z rfl
/-! ### writing -/
theorem set_perm {α : Type} : ∀ {l : List α} {k : Nat} {x y : α}, l[k]? = some x → ∃ r, l.Perm (x :: r) ∧ (l.set k y).Perm (y :: r)
  | [], k, x, y, h => by simp at h
  | z :: l, 0, x, y, h => by
    cases h
    exact ⟨l, List.Perm.refl _, List.Perm.refl _⟩
  | z :: l, k + 1, x, y, h => by
    obtain ⟨r, h1, h2⟩ := set_perm (l := l) (k := k) (x := x) (y := y) h
    exact ⟨z :: r, (h1.cons z).trans (List.Perm.swap ..), (h2.cons z).trans (List.Perm.swap ..)⟩
section
variable {B : Bs} {F : FS} {H : Hp} {σ : L2.St} {ρ : Ro} {Z : Zs}
/-- one resource is changed, at its own addresses and at new ones -/
theorem EnvJ.turn (e : EnvJ B F H σ ρ Z) {k : Nat} {z z' : Res} (hk : Z[k]? = some z) {H' : Hp} (hs : ∀ a o, a ∉ z.adrs → H a = some o → H' a = some o) (hz : z'.at F H') (ha : ∀ a ∈ z'.adrs, a ∈ z.adrs ∨ H a = none) (nd : z'.adrs.Nodup) :
    EnvJ B F H' σ ρ (Z.set k z') ∧ Fr F H F H' := by
  obtain ⟨r, p1, p2⟩ := set_perm (y := z') hk
  have e1 := e.perm p1.symm
  have zm : ∀ a ∈ z.adrs, a ∈ adrs (z :: r) := fun a h => by
    unfold adrs
    rw [List.flatMap_cons]
    exact List.mem_append_left _ h
  have rm : ∀ a ∈ adrs r, a ∈ adrs (z :: r) := fun a h => by
    unfold adrs
    rw [List.flatMap_cons]
    exact List.mem_append_right _ h
  have ap : ∀ a ∈ z.adrs, a ∉ adrs r := fun a h1 h2 => by
    have := e1.z.nd
    unfold adrs at this
    rw [List.flatMap_cons] at this
    exact (List.nodup_append.mp this).2.2 a h1 a h2 rfl
  have fs : ∀ a, F a → H' a = H a := fun a f => by
    cases c : H a with
    | none => exact absurd c (e.e.fh a f)
    | some o => exact hs a o (fun m => e1.z.nf a (zm a m) f) c
  have mo : Mo F H F H' := ⟨fun _ h => h, fun a o f h => (fs a f).trans h⟩
  have rs : ∀ a ∈ adrs r, H' a = H a := fun a m => by
    cases c : H a with
    | none => exact absurd c (e1.z.there a (rm a m))
    | some o => exact hs a o (fun m2 => ap a m2 m) c
  have z2 : ZOk F H' (z' :: r) := by
    refine ⟨fun x hx => ?_, fun a h f => ?_, ?_⟩
    · rcases List.mem_cons.mp hx with w | w
      · rw [w]
        exact hz
      · exact Res.to mo (e1.z.at_ x (.tail _ w)) fun a h => rs a (List.mem_flatMap.mpr ⟨x, w, h⟩)
    · unfold adrs at h
      rw [List.flatMap_cons] at h
      rcases List.mem_append.mp h with w | w
      · rcases ha a w with w | w
        · exact e1.z.nf a (zm a w) f
        · exact e.e.fh a f w
      · exact e1.z.nf a (rm a w) f
    · have := e1.z.nd
      unfold adrs at this ⊢
      rw [List.flatMap_cons] at this ⊢
      refine List.nodup_append.mpr ⟨nd, (List.nodup_append.mp this).2.1, fun a h1 b h2 q => ?_⟩
      subst q
      rcases ha a h1 with w | w
      · exact ap a w h2
      · exact e1.z.there a (rm a h2) w
  obtain ⟨e2, fr⟩ := e1.zap (F' := F) (H' := H') (Z' := z' :: r) (fun _ h => h) (fun a o na h => hs a o (fun m => na (zm a m)) h) (fun _ h => .inl h) (fun a f => by rw [fs a f]; exact e.e.fh a f) z2 fun a h => by
    unfold adrs at h
    rw [List.flatMap_cons] at h
    rcases List.mem_append.mp h with w | w
    · rcases ha a w with w | w
      · exact .inl (zm a w)
      · exact .inr w
    · exact .inl (rm a w)
  exact ⟨e2.perm p2, fr⟩
theorem EnvJ.cellAt (e : EnvJ B F H σ ρ Z) {k : Nat} {p : Addr} {d : D} (hk : Z[k]? = some (.cell p d)) : MutC F H d p ∧ ¬ F p := ⟨e.z.at_ _ (List.mem_of_getElem? hk), e.z.nf p (List.mem_flatMap.mpr ⟨_, List.mem_of_getElem? hk, .head _⟩)⟩
/-- a cell's content is changed -/
theorem EnvJ.put (e : EnvJ B F H σ ρ Z) {k : Nat} {p : Addr} {d d' : D} {o : HO} (hk : Z[k]? = some (.cell p d)) (m : MutC F (upd H p o) d' p) : EnvJ B F (upd H p o) σ ρ (Z.set k (.cell p d')) ∧ Fr F H F (upd H p o) :=
  e.turn hk (fun a u na h => by rw [upd_ne (fun z : a = p => na (by rw [z]; exact .head _))]; exact h) m (fun a h => .inl h) (List.pairwise_singleton _ _)
end
section
variable {ρ : Ro} {Z : Zs} {te ta ty : TE} {t u : TS} {d : D} {Φ : PoJ} {i k : Nat} {p : Addr} {K : PySem.W.Frag} {P : D → Zs → Prop}
/-- an item of a list that is known by its address -/
theorem ej_ixC {tb : TE} {ds : List D} (hi : ρ[i]? = some (Ent.ptr p)) (hk : Z[k]? = some (.cell p (.list ds))) (hb : EvJ tb ρ Z fun e Z' => ∃ (j : Int) (f : D), e = .int j ∧ Z'[k]? = some (.cell p (.list ds)) ∧ atI ds j = some f ∧ P f Z') : EvJ (tOp (rIxL K) (tVar i) tb) ρ Z P := fun B F H σ en Q kk =>
  ⟨.ref p, en.e.pt i p hi, hb B F H σ en _ fun e v F1 H1 Z1 ⟨j, f, e1, hk1, hf, pf⟩ en1 fr r => by
    subst e1
    have r : v = .int j := r
    subst r
    obtain ⟨⟨xs, hp, rx⟩, _⟩ := en1.cellAt hk1
    obtain ⟨x, hx, rp⟩ := rx.at hf
    exact ⟨p, xs, j, x, rfl, rfl, SqL.of hp, hx, kk f x F1 H1 Z1 pf en1 fr rp⟩⟩
/-- p.append(x) -/
theorem sj_append {ds : List D} (hi : ρ[i]? = some (Ent.ptr p)) (h0 : Z[k]? = some (.cell p (.list ds))) (h : EvJ te ρ Z fun d Z' => ∃ (k' : Nat) (ds' : List D), Z'[k']? = some (.cell p (.list ds')) ∧ ds'.length < 10000 ∧ Φ.nx ρ (Z'.set k' (.cell p (.list (ds' ++ [d]))))) : SwJ (tDrop (tBM K "list" rAppend (tVar i) (tCons te tNil))) ρ Z Φ := fun B F H σ en Dn kn kr kb kc => by
  obtain ⟨⟨xs0, hp0, _⟩, _⟩ := en.cellAt h0
  refine ⟨.ref p, en.e.pt i p hi, .inl ⟨rfl, xs0, SqL.of hp0⟩, h B F H σ en _ fun d v F1 H1 Z1 ⟨k', ds', hk, hl, q⟩ en1 fr r => ?_⟩
  obtain ⟨⟨xs, hp, rx⟩, nf⟩ := en1.cellAt hk
  refine ⟨p, xs, v, rfl, rfl, hp, big_lt (by rw [rx.len]; exact hl), ?_⟩
  obtain ⟨en2, fr2⟩ := en1.put (d' := .list (ds' ++ [d])) hk ⟨_, upd_same, Rps.mo (mo_write nf) _ _ (rx.append (Rps.one r))⟩
  exact kn ρ _ F1 _ σ q en2 (fr.trans fr2)
/-- p[n] = x, p a dict -/
theorem sj_dput {kds : List (Key × D)} {key : Key} (hi : ρ[i]? = some (Ent.ptr p)) (hv : EvJ te ρ Z fun d Z1 => EvJ ty ρ Z1 fun y Z2 => ∃ (k : Nat) (kds : List (Key × D)) (key : Key), Z2[k]? = some (.cell p (.dict kds)) ∧ y = keyOf key ∧ kds.length < 10000 ∧ Φ.nx ρ (Z2.set k (.cell p (.dict (putD kds key d))))) : SwJ (sDPut (tVar i) ty te) ρ Z Φ := fun B F H σ en Dn kn kr kb kc =>
  hv B F H σ en _ fun d v F1 H1 Z1 h1 en1 fr1 r1 => ⟨.ref p, en1.e.pt i p hi, h1 B F1 H1 σ en1 _ fun y yv F2 H2 Z2 ⟨k, kds, key, hk, hy, hl, q⟩ en2 fr2 r2 => by
    obtain ⟨⟨xs, hp, rx⟩, nf⟩ := en2.cellAt hk
    have ey : yv = kV key := by
      subst hy
      cases key <;> exact r2
    subst ey
    refine ⟨p, _, rfl, .inl ⟨xs, key, hp, rfl, big_lt (by rw [(pk_of rx).len]; exact hl), rfl⟩, ?_⟩
    obtain ⟨en3, fr3⟩ := en2.put (d' := .dict (putD kds key d)) hk ⟨_, upd_same, RpK.mo (mo_write nf) _ _ (rpk_of ((pk_of rx).put (Rp.mo fr2.mo d v r1)))⟩
    exact kn ρ _ F2 _ σ q en3 ((fr1.trans fr2).trans fr3)⟩
/-- p[j] = x, p a list -/
theorem Rps.set {F : FS} {H : Hp} : ∀ {ds : List D} {vs : List V} {j : Nat} {d : D} {v : V}, Rps F H ds vs → Rp F H d v → Rps F H (ds.set j d) (vs.set j v)
  | [], vs, j, d, v, h, _ => by
    have h : vs = [] := h
    subst h
    exact rfl
  | x :: ds, vs, 0, d, v, h, r => by
    obtain ⟨w, ws, rfl, _, q⟩ := h
    exact ⟨v, ws, rfl, r, q⟩
  | x :: ds, vs, j + 1, d, v, h, r => by
    obtain ⟨w, ws, rfl, p, q⟩ := h
    exact ⟨w, _, rfl, p, q.set r⟩
theorem ix_nat' {n j : Nat} (hj : j < n) : ixN n (j : Int) = some j := by
  unfold ixN
  rw [if_pos (by omega), if_pos (by omega), Int.toNat_natCast]
theorem sj_setIx {j : Nat} (hi : ρ[i]? = some (Ent.ptr p)) (hv : EvJ te ρ Z fun d Z1 => EvJ ty ρ Z1 fun y Z2 => ∃ (k : Nat) (ds : List D), Z2[k]? = some (.cell p (.list ds)) ∧ y = .int (j : Int) ∧ j < ds.length ∧ Φ.nx ρ (Z2.set k (.cell p (.list (ds.set j d))))) : SwJ (tAsg te (gSub (tVar i) ty rSetL)) ρ Z Φ := fun B F H σ en Dn kn kr kb kc =>
  hv B F H σ en _ fun d v F1 H1 Z1 h1 en1 fr1 r1 => ⟨.ref p, en1.e.pt i p hi, h1 B F1 H1 σ en1 _ fun y yv F2 H2 Z2 ⟨k, ds, hk, hy, hl, q⟩ en2 fr2 r2 => by
    obtain ⟨⟨xs, hp, rx⟩, nf⟩ := en2.cellAt hk
    subst hy
    have ey : yv = .int (j : Int) := r2
    subst ey
    refine ⟨p, xs, j, j, rfl, rfl, hp, ix_nat' (by rw [rx.len]; exact hl), ?_⟩
    obtain ⟨en3, fr3⟩ := en2.put (d' := .list (ds.set j d)) hk ⟨_, upd_same, Rps.mo (mo_write nf) _ _ (rx.set (Rp.mo fr2.mo d v r1))⟩
    exact kn ρ _ F2 _ σ q en3 ((fr1.trans fr2).trans fr3)⟩
end
/-! ### the frozen view: what is known by its address read as data -/
def verD (cs : List (Str × Addr × List Int)) : D := .dict (cs.map fun c => (.inr c.1, .list (c.2.2.map .int)))
inductive FrzE (Z : Zs) : Ent → Ent → Prop
  | same (e : Ent) : FrzE Z e e
  | cell {p : Addr} {d : D} : Res.cell p d ∈ Z → FrzE Z (.ptr p) (.im d)
  | vers {p : Addr} {cs : List (Str × Addr × List Int)} : Res.vers p cs ∈ Z → FrzE Z (.ptr p) (.im (verD cs))
  | inner {p a : Addr} {ns : List Int} {cs : List (Str × Addr × List Int)} {n : Str} : Res.vers p cs ∈ Z → (n, a, ns) ∈ cs → FrzE Z (.ptr a) (.im (.list (ns.map .int)))
def FrzL (Z : Zs) : Ro → Ro → Prop
  | [], [] => True
  | e :: r, e' :: r' => FrzE Z e e' ∧ FrzL Z r r'
  | _, _ => False
theorem FrzL.len {Z : Zs} : ∀ {r r' : Ro}, FrzL Z r r' → r.length = r'.length
  | [], [], _ => rfl
  | e :: r, e' :: r', h => by rw [List.length_cons, List.length_cons, h.2.len]
  | [], _ :: _, h => h.elim
  | _ :: _, [], h => h.elim
theorem FrzL.at {Z : Zs} : ∀ {r r' : Ro} {i : Nat} {e' : Ent}, FrzL Z r r' → r'[i]? = some e' → ∃ e, r[i]? = some e ∧ FrzE Z e e'
  | [], [], i, _, _, h => by simp at h
  | e :: r, e' :: r', 0, x, h, hx => by
    cases hx
    exact ⟨e, rfl, h.1⟩
  | e :: r, e' :: r', i + 1, x, h, hx => h.2.at (i := i) hx
  | [], _ :: _, _, _, h, _ => h.elim
  | _ :: _, [], _, _, h, _ => h.elim
def withZ (F : FS) (Z : Zs) : FS := fun a => F a ∨ a ∈ adrs Z
theorem mo_with {F : FS} {H : Hp} {Z : Zs} : Mo F H (withZ F Z) H := ⟨fun _ h => .inl h, fun _ _ _ h => h⟩
theorem rp_ver {F : FS} {H : Hp} : ∀ {cs : List (Str × Addr × List Int)}, (∀ c ∈ cs, F c.2.1 ∧ H c.2.1 = some (.lst (c.2.2.map .int))) → RpK F H (cs.map fun c => (.inr c.1, .list (c.2.2.map .int))) (cs.map fun c => (.inr c.1, V.ref c.2.1))
  | [], _ => rfl
  | c :: cs, h => ⟨_, _, rfl, ⟨c.2.1, _, rfl, (h c (.head _)).1, (h c (.head _)).2, Rps.of_ints _⟩, rp_ver fun x hx => h x (.tail _ hx)⟩
theorem ZOk.adr {F : FS} {H : Hp} {Z : Zs} {z : Res} (hz : z ∈ Z) {a : Addr} (ha : a ∈ z.adrs) : a ∈ adrs Z := List.mem_flatMap.mpr ⟨z, hz, ha⟩
theorem EnvJ.frz {B : Bs} {F : FS} {H : Hp} {σ : L2.St} {ρ ρ' : Ro} {Z : Zs} (e : EnvJ B F H σ ρ Z) (f : FrzL Z ρ ρ') : EnvR B (withZ F Z) H σ ρ' := by
  have key : ∀ (i : Nat) (e' : Ent), ρ'[i]? = some e' → (ρ[i]? = some e' ∧ plE e') ∨ ∃ d a, e' = .im d ∧ ρ[i]? = some (.ptr a) ∧ Rp (withZ F Z) H d (.ref a) := fun i e' h => by
    obtain ⟨x, hx, fe⟩ := f.at h
    cases fe with
    | same => exact .inl ⟨hx, e.pl i _ hx⟩
    | @cell p d hz => exact .inr ⟨d, p, rfl, hx, MutC.rp (.inr (ZOk.adr (F := F) (H := H) hz (.head _))) ((e.z.at_ _ hz : MutC F H d p).at mo_with rfl)⟩
    | @vers p cs hz =>
      obtain ⟨h1, h2⟩ : H p = some (.dK (cs.map fun c => (.inr c.1, V.ref c.2.1))) ∧ ∀ c ∈ cs, H c.2.1 = some (.lst (c.2.2.map .int)) := e.z.at_ _ hz
      exact .inr ⟨verD cs, p, rfl, hx, p, _, rfl, .inr (ZOk.adr (F := F) (H := H) hz (.head _)), h1, rp_ver fun c hc => ⟨.inr (ZOk.adr (F := F) (H := H) hz (.tail _ (List.mem_map_of_mem (f := fun c : Str × Addr × List Int => c.2.1) hc))), h2 c hc⟩⟩
    | @inner p a ns cs n hz hc =>
      obtain ⟨h1, h2⟩ : H p = some (.dK (cs.map fun c => (.inr c.1, V.ref c.2.1))) ∧ ∀ c ∈ cs, H c.2.1 = some (.lst (c.2.2.map .int)) := e.z.at_ _ hz
      exact .inr ⟨_, a, rfl, hx, a, _, rfl, .inr (ZOk.adr (F := F) (H := H) hz (.tail _ (List.mem_map_of_mem (f := fun c : Str × Addr × List Int => c.2.1) hc))), h2 _ hc, Rps.of_ints _⟩
  refine ⟨by rw [← f.len]; exact e.e.len, fun i d h => ?_, fun i d h => ?_, fun i j d1 d2 p h => ?_, fun i a kds h => ?_, fun i a h => ?_, fun a h => ?_, fun a h => .inl (e.e.bf a h), e.e.bs, fun a h => ?_⟩
  · rcases key i _ h with ⟨h1, _⟩ | ⟨d', a, h1, h2, r⟩
    · obtain ⟨v, a, r⟩ := e.e.im i d h1
      exact ⟨v, a, Rp.mo mo_with _ _ r⟩
    · cases h1
      exact ⟨_, e.e.pt i a h2, r⟩
  · rcases key i _ h with ⟨_, h1⟩ | ⟨d', a, h1, _⟩
    · exact h1.elim
    · cases h1
  · rcases key i _ h with ⟨_, h1⟩ | ⟨d', a, h1, _⟩
    · exact h1.elim
    · cases h1
  · rcases key i _ h with ⟨_, h1⟩ | ⟨d', a, h1, _⟩
    · exact h1.elim
    · cases h1
  · rcases key i _ h with ⟨h1, _⟩ | ⟨d', a, h1, _⟩
    · exact e.e.pt i a h1
    · cases h1
  · rcases h with h | h
    · exact e.e.fh a h
    · exact e.z.there a h
  · rcases h with h | h
    · exact e.e.bn a h
    · exact .inr (e.nb a h)
theorem gw_same {F F1 : FS} {H H1 : Hp} {Z : Zs} (hF : ∀ a, F a → H a ≠ none) (g : Gw (withZ F Z) H F1 H1) : Gw F H F H1 := ⟨fun _ h => h, g.s, fun _ h => .inl h, fun a h => by
  cases c : H a with
  | none => exact absurd c (hF a h)
  | some o =>
    rw [g.s a o c]
    exact fun z => nomatch z⟩
section
variable {ρ ρ' : Ro} {Z : Zs} {te : TE} {tt : TT} {d : D} {P : D → Zs → Prop}
theorem ej_frz (f : FrzL Z ρ ρ') (h : Ev te ρ' d) (hf : flatD d = true) (p : P d Z) : EvJ te ρ Z P := fun B F H σ en Q k => h B _ H σ (en.frz f) _ fun v F1 H1 g r =>
  k d v F H1 Z p (en.gw (gw_same en.e.fh g)) ((gw_same en.e.fh g).fr en.e.fh) (Rp.flat hf r)
theorem ej_frzP {P0 : D → Prop} (f : FrzL Z ρ ρ') (h : EvP te ρ' P0) (p : ∀ d, P0 d → flatD d = true ∧ P d Z) : EvJ te ρ Z P := fun B F H σ en Q k => h B _ H σ (en.frz f) _ fun d v F1 H1 q g r =>
  k d v F H1 Z (p d q).2 (en.gw (gw_same en.e.fh g)) ((gw_same en.e.fh g).fr en.e.fh) (Rp.flat (p d q).1 r)
theorem et_frz {P : Bool → Zs → Prop} {b : Bool} (f : FrzL Z ρ ρ') (h : EvT tt ρ' b) (p : P b Z) : EtJ tt ρ Z P := fun B F H σ en Q k => h B _ H σ (en.frz f) _ fun F1 H1 g =>
  k b F H1 Z p (en.gw (gw_same en.e.fh g)) ((gw_same en.e.fh g).fr en.e.fh)
/-- a new list of flat items -/
def EvNJ (te : TE) (ρ : Ro) (Z : Zs) (P : List D → Zs → Prop) : Prop := ∀ B F H σ, EnvJ B F H σ ρ Z → ∀ Q : VK, (∀ ds p F' H' Z', P ds Z' → EnvJ B F' H' σ ρ (Z' ++ [.cell p (.list ds)]) → Fr F H F' H' → Q (.ref p) H') → te σ H Q
theorem EnvJ.add {B : Bs} {F : FS} {H : Hp} {σ : L2.St} {ρ : Ro} {Z : Zs} {p : Addr} {d : D} (e : EnvJ B F H σ ρ Z) (np : p ∉ adrs Z) (nf : ¬ F p) (nb : B.H p = none) (m : MutC F H d p) : EnvJ B F H σ ρ (Z ++ [.cell p d]) := by
  refine ⟨e.e, ⟨fun z hz => ?_, fun a ha => ?_, ?_⟩, fun a ha => ?_, e.pl⟩
  · rcases List.mem_append.mp hz with z1 | z1
    · exact e.z.at_ z z1
    · rw [List.mem_singleton.mp z1]
      exact m
  · rcases mem_adrs_app.mp ha with z1 | z1
    · exact e.z.nf a z1
    · have e1 : a = p := by simpa [adrs, Res.adrs] using z1
      rw [e1]
      exact nf
  · unfold adrs
    rw [List.flatMap_append]
    refine List.nodup_append.mpr ⟨e.z.nd, List.pairwise_singleton _ _, fun a h1 b h2 q => ?_⟩
    have e' : b = p := by simpa [Res.adrs] using h2
    exact np (e' ▸ q ▸ h1)
  · rcases mem_adrs_app.mp ha with z1 | z1
    · exact e.nb a z1
    · have e1 : a = p := by simpa [adrs, Res.adrs] using z1
      rw [e1]
      exact nb
theorem en_frz {ds : List D} {P : List D → Zs → Prop} (f : FrzL Z ρ ρ') (h : EvN te ρ' (.list ds)) (hf : ∀ d ∈ ds, flatD d = true) (p : P ds Z) : EvNJ te ρ Z P := fun B F H σ en Q k => h B _ H σ (en.frz f) _ fun q F1 H1 hq g nf m => by
  obtain ⟨xs, hx, rx⟩ := m
  have g' := gw_same en.e.fh g
  have en1 := en.gw g'
  exact k ds q F H1 Z p (en1.add (fun z => en.z.there q z hq) (fun z => en.e.fh q z hq) (en.e.bs.free hq) ⟨xs, hx, Rps.flat hf rx⟩) (g'.fr en.e.fh)
end
end Tk

set_option Elab.async false
set_option linter.all false
set_option maxRecDepth 100000
set_option maxHeartbeats 2000000
/-! Tj4: versions, loops, unpacking. -/
namespace Tk
open PySem PySem.Spec PyProof.Rows L2
abbrev Cs := List (Str × Addr × List Int)
def vrOf (cs : Cs) : List (Str × List Int) := cs.map fun c => (c.1, c.2.2)
/-- one more version of n -/
def appV (vs : List (Str × List Int)) (n : Str) (w : Int) : List (Str × List Int) := if (vs.any fun p => decide (p.1 = n)) = true then vs.map fun p => if p.1 = n then (p.1, p.2 ++ [w]) else p else vs ++ [(n, [w])]
theorem val_cs {cs : Cs} {n : Str} : valV (cs.map fun c => ((.inr c.1 : Key), V.ref c.2.1)) (.inr n) = ((cs.find? fun c => decide (c.1 = n)).map fun c => V.ref c.2.1) := by
  induction cs with
  | nil => rfl
  | cons c r ih =>
    rw [List.map_cons, List.find?_cons]
    unfold valV at ih ⊢
    rw [List.find?_cons]
    by_cases q : c.1 = n
    · rw [decide_eq_true q, decide_eq_true (show (Sum.inr c.1 : Key) = .inr n from by rw [q])]
      rfl
    · rw [decide_eq_false q, decide_eq_false (fun z : (Sum.inr c.1 : Key) = .inr n => q (Sum.inr.inj z))]
      exact ih
theorem vers_nd {F : FS} {H : Hp} {Z : Zs} {k : Nat} {p : Addr} {cs : Cs} (z : ZOk F H Z) (hk : Z[k]? = some (.vers p cs)) : (p :: cs.map (·.2.1)).Nodup := by
  obtain ⟨r, p1, _⟩ := set_perm (y := Res.vers p cs) hk
  have := (z.perm p1.symm).nd
  unfold adrs at this
  rw [List.flatMap_cons] at this
  exact (List.nodup_append.mp this).1
section
variable {ρ ρ' : Ro} {Z : Zs} {te ta ty : TE} {t u : TS} {d : D} {Φ : PoJ} {i k : Nat} {p : Addr} {K : PySem.W.Frag} {P : D → Zs → Prop}
/-- versions.setdefault(name, []).append(worth) -/
theorem sj_verApp {cs : Cs} {n : Str} {w : Int} (hi : ρ[i]? = some (Ent.ptr p)) (hk : Z[k]? = some (.vers p cs)) (hy : Ev ty ρ (.str n)) (he : Ev te ρ (.int w)) (hl : cs.length < 10000) (hn : (cs.map (·.1)).Nodup) (hw : ∀ c ∈ cs, c.2.2.length < 10000)
    (q : ∀ cs' : Cs, vrOf cs' = appV (vrOf cs) n w → (∀ a ∈ cs.map (fun c : Str × Addr × List Int => c.2.1), a ∈ cs'.map (fun c : Str × Addr × List Int => c.2.1)) → Φ.nx ρ (Z.set k (.vers p cs'))) : SwJ (tDrop (tBM K "list" rAppend (tDSetd (tVar i) ty (tLst tNil)) (tCons te tNil))) ρ Z Φ := fun B F H σ en Dn kn kr kb kc => by
  have vat : ∀ {F H}, EnvJ B F H σ ρ Z → H p = some (.dK (cs.map fun c => (.inr c.1, V.ref c.2.1))) ∧ ∀ c ∈ cs, H c.2.1 = some (.lst (c.2.2.map .int)) := fun e => e.z.at_ _ (List.mem_of_getElem? hk)
  refine ⟨.ref p, en.e.pt i p hi, p, rfl, .inl ⟨_, .inl (vat en).1⟩, hy B F H σ en.e _ fun y F1 H1 g1 r1 => ?_⟩
  have en1 := en.gw g1
  have r1 : y = .str n := r1
  subst r1
  refine ⟨Nat.zero_le _, fun b hb => ?_⟩
  -- the list that may be needed
  have gb : Gw F1 H1 F1 (upd H1 b (.lst [])) := gw_upd en1.e.fh hb
  have en2 := en1.gw gb
  have pv := (vat en2).1
  have nd := vers_nd en2.z hk
  have fr2 : Fr F H F1 (upd H1 b (.lst [])) := (g1.fr en.e.fh).trans (gb.fr en1.e.fh)
  refine ⟨_, .inr n, pv, rfl, by rw [List.length_map]; exact big_lt hl, fun v hv => ?_, fun hv => ?_⟩
  · -- it has versions
    rw [val_cs] at hv
    obtain ⟨c, hc, rfl⟩ := Option.map_eq_some_iff.mp hv
    have cm := List.mem_of_find?_eq_some hc
    have cn : c.1 = n := by
      have := List.find?_some hc
      exact of_decide_eq_true this
    have ca := (vat en2).2 c cm
    refine ⟨.inl ⟨rfl, _, SqL.of ca⟩, he B F1 _ σ en2.e _ fun x F3 H3 g3 r3 => ?_⟩
    have r3 : x = .int w := r3
    subst r3
    have en3 := en2.gw g3
    refine ⟨c.2.1, _, _, rfl, rfl, (vat en3).2 c cm, big_lt (by rw [List.length_map]; exact hw c cm), ?_⟩
    let cs' : Cs := cs.map fun x => if x.1 = n then (x.1, x.2.1, x.2.2 ++ [w]) else x
    have adr : cs'.map (·.2.1) = cs.map (·.2.1) := by
      rw [List.map_map]
      refine List.map_congr_left fun x _ => ?_
      show (if x.1 = n then (x.1, x.2.1, x.2.2 ++ [w]) else x).2.1 = x.2.1
      by_cases z : x.1 = n
      · rw [if_pos z]
      · rw [if_neg z]
    have nm : cs'.map (fun c => ((.inr c.1 : Key), V.ref c.2.1)) = cs.map fun c => (.inr c.1, V.ref c.2.1) := by
      rw [List.map_map]
      refine List.map_congr_left fun x _ => ?_
      show ((.inr (if x.1 = n then (x.1, x.2.1, x.2.2 ++ [w]) else x).1 : Key), V.ref (if x.1 = n then (x.1, x.2.1, x.2.2 ++ [w]) else x).2.1) = _
      by_cases z : x.1 = n
      · rw [if_pos z]
      · rw [if_neg z]
    have one : ∀ x ∈ cs, x.1 = n → x = c := fun x hx e => by
      obtain ⟨j, hj, ej⟩ := List.getElem_of_mem hx
      obtain ⟨j', hj', ej'⟩ := List.getElem_of_mem cm
      have : j = j' := by
        rcases Nat.lt_trichotomy j j' with z | z | z
        · have := List.pairwise_iff_getElem.mp hn j j' (by rw [List.length_map]; exact hj) (by rw [List.length_map]; exact hj') z
          rw [List.getElem_map, List.getElem_map, ej, ej', e, cn] at this
          exact absurd rfl this
        · exact z
        · have := List.pairwise_iff_getElem.mp hn j' j (by rw [List.length_map]; exact hj') (by rw [List.length_map]; exact hj) z
          rw [List.getElem_map, List.getElem_map, ej, ej', e, cn] at this
          exact absurd rfl this
      subst this
      exact ej.symm.trans ej'
    have far : ∀ x ∈ cs, x.1 ≠ n → x.2.1 ≠ c.2.1 := fun x hx ne e => by
      obtain ⟨j, hj, ej⟩ := List.getElem_of_mem hx
      obtain ⟨j', hj', ej'⟩ := List.getElem_of_mem cm
      have nd2 := (List.nodup_cons.mp nd).2
      rcases Nat.lt_trichotomy j j' with z | z | z
      · have := List.pairwise_iff_getElem.mp nd2 j j' (by rw [List.length_map]; exact hj) (by rw [List.length_map]; exact hj') z
        rw [List.getElem_map, List.getElem_map, ej, ej'] at this
        exact this e
      · subst z
        exact ne (by rw [← ej, ej', cn])
      · have := List.pairwise_iff_getElem.mp nd2 j' j (by rw [List.length_map]; exact hj') (by rw [List.length_map]; exact hj) z
        rw [List.getElem_map, List.getElem_map, ej, ej'] at this
        exact this e.symm
    have pne : p ≠ c.2.1 := fun e => (List.nodup_cons.mp nd).1 (e ▸ List.mem_map_of_mem (f := fun c : Str × Addr × List Int => c.2.1) cm)
    obtain ⟨en4, fr4⟩ := en3.turn (z' := .vers p cs') (H' := upd H3 c.2.1 (.lst (c.2.2.map .int ++ [.int w]))) hk (fun a o na h => by
        rw [upd_ne (fun z => na (by rw [z]; exact .tail _ (List.mem_map_of_mem (f := fun c : Str × Addr × List Int => c.2.1) cm)))]
        exact h) ⟨by rw [upd_ne pne, nm]; exact (vat en3).1, fun x hx => by
        obtain ⟨y, hy, rfl⟩ := List.mem_map.mp hx
        by_cases z : y.1 = n
        · rw [if_pos z]
          have := one y hy z
          subst this
          rw [upd_same, List.map_append]
          rfl
        · rw [if_neg z, upd_ne (far y hy z)]
          exact (vat en3).2 y hy⟩ (fun a ha => by
        left
        show a ∈ p :: cs.map (·.2.1)
        have ha : a ∈ p :: cs'.map (·.2.1) := ha
        rw [adr] at ha
        exact ha) (by
        show (p :: cs'.map (·.2.1)).Nodup
        rw [adr]
        exact nd)
    refine kn ρ _ F3 _ σ (q cs' ?_ (fun a ha => by rw [adr]; exact ha)) en4 ((fr2.trans (g3.fr en2.e.fh)).trans fr4)
    unfold appV
    have an : ((vrOf cs).any fun p => decide (p.1 = n)) = true := List.any_eq_true.mpr ⟨(c.1, c.2.2), List.mem_map_of_mem (f := fun c : Str × Addr × List Int => (c.1, c.2.2)) cm, decide_eq_true cn⟩
    rw [if_pos an]
    unfold vrOf
    rw [List.map_map, List.map_map]
    refine List.map_congr_left fun x _ => ?_
    show ((if x.1 = n then (x.1, x.2.1, x.2.2 ++ [w]) else x).1, (if x.1 = n then (x.1, x.2.1, x.2.2 ++ [w]) else x).2.2) = if x.1 = n then (x.1, x.2.2 ++ [w]) else (x.1, x.2.2)
    by_cases z : x.1 = n
    · rw [if_pos z, if_pos z]
    · rw [if_neg z, if_neg z]
  · -- its first version
    rw [val_cs, Option.map_eq_none_iff, List.find?_eq_none] at hv
    have new : putK (cs.map fun c => ((.inr c.1 : Key), V.ref c.2.1)) (.inr n) (.ref b) = (cs ++ [((n, b, []) : Str × Addr × List Int)]).map fun c : Str × Addr × List Int => ((.inr c.1 : Key), V.ref c.2.1) := by
      unfold putK
      have : ¬ ((cs.map fun c => ((.inr c.1 : Key), V.ref c.2.1)).any fun kv => decide (kv.1 = .inr n)) = true := fun z => by
        rw [List.any_map] at z
        obtain ⟨c, hc, e⟩ := List.any_eq_true.mp z
        have e : (Sum.inr c.1 : Key) = .inr n := of_decide_eq_true e
        exact hv c hc (decide_eq_true (Sum.inr.inj e))
      rw [if_neg this, List.map_append]
      rfl
    rw [new]
    have pb : p ≠ b := fun e => by
      have := (vat en1).1
      rw [e, hb] at this
      cases this
    have cb : ∀ c ∈ cs, c.2.1 ≠ b := fun c hc e => by
      have := (vat en1).2 c hc
      rw [e, hb] at this
      cases this
    have cp : ∀ c ∈ cs, c.2.1 ≠ p := fun c hc e => (List.nodup_cons.mp nd).1 (e ▸ List.mem_map_of_mem (f := fun c : Str × Addr × List Int => c.2.1) hc)
    obtain ⟨en3, fr3⟩ := en1.turn (z' := .vers p (cs ++ [(n, b, [])])) (H' := upd (upd H1 b (.lst [])) p (.dK ((cs ++ [((n, b, []) : Str × Addr × List Int)]).map fun c : Str × Addr × List Int => ((.inr c.1 : Key), V.ref c.2.1)))) hk (fun a o na h => by
        rw [upd_ne (fun z : a = p => na (by rw [z]; exact .head _)), upd_ne (ne_of_none h hb)]
        exact h) ⟨upd_same, fun x hx => by
        rcases List.mem_append.mp hx with z | z
        · rw [upd_ne (cp x z), upd_ne (cb x z)]
          exact (vat en1).2 x z
        · rw [List.mem_singleton.mp z, upd_ne (Ne.symm pb), upd_same]
          rfl⟩ (fun a ha => by
        rcases List.mem_cons.mp ha with z | z
        · rw [z]
          exact .inl (.head _)
        · rw [List.map_append] at z
          rcases List.mem_append.mp z with z | z
          · exact .inl (.tail _ z)
          · rw [List.mem_singleton.mp z]
            exact .inr hb) (by
        show (p :: (cs ++ [((n, b, []) : Str × Addr × List Int)]).map (fun c : Str × Addr × List Int => c.2.1)).Nodup
        obtain ⟨n1, n2⟩ := List.nodup_cons.mp nd
        rw [List.map_append]
        refine List.nodup_cons.mpr ⟨fun z => ?_, List.nodup_append.mpr ⟨n2, List.pairwise_singleton _ _, fun a h1 c h2 e => ?_⟩⟩
        · rcases List.mem_append.mp z with z | z
          · exact n1 z
          · exact pb (List.mem_singleton.mp z)
        · obtain ⟨x, hx, rfl⟩ := List.mem_map.mp h1
          rw [List.mem_singleton.mp h2] at e
          exact cb x hx e)
    have hk2 : (Z.set k (.vers p (cs ++ [(n, b, [])])))[k]? = some (.vers p (cs ++ [(n, b, [])])) := List.getElem?_set_self (List.getElem?_eq_some_iff.mp hk).1
    have b3 : ∀ {F H}, EnvJ B F H σ ρ (Z.set k (.vers p (cs ++ [(n, b, [])]))) → H b = some (.lst []) := fun e => (e.z.at_ _ (List.mem_of_getElem? hk2)).2 (n, b, []) (by simp)
    refine ⟨.inl ⟨rfl, _, SqL.of (b3 en3)⟩, he B F1 _ σ en3.e _ fun x F3 H3 g3 r3 => ?_⟩
    have r3 : x = .int w := r3
    subst r3
    have en4 := en3.gw g3
    refine ⟨b, [], _, rfl, rfl, b3 en4, big_lt (Nat.zero_lt_succ _), ?_⟩
    have v4 : H3 p = some (.dK ((cs ++ [((n, b, []) : Str × Addr × List Int)]).map fun c : Str × Addr × List Int => ((.inr c.1 : Key), V.ref c.2.1))) ∧ ∀ c ∈ cs ++ [((n, b, []) : Str × Addr × List Int)], H3 c.2.1 = some (.lst (c.2.2.map .int)) := en4.z.at_ _ (List.mem_of_getElem? hk2)
    have nd4 := vers_nd en4.z hk2
    obtain ⟨en5, fr5⟩ := en4.turn (z' := .vers p (cs ++ [(n, b, [w])])) (H' := upd H3 b (.lst ([] ++ [.int w]))) hk2 (fun a o na h => by
        rw [upd_ne (fun z => na (by rw [z]; exact .tail _ (List.mem_map.mpr ⟨(n, b, []), by simp, rfl⟩)))]
        exact h) ⟨by
        rw [upd_ne pb, v4.1, List.map_append, List.map_append]
        rfl, fun x hx => by
        rcases List.mem_append.mp hx with z | z
        · rw [upd_ne (cb x z)]
          exact v4.2 x (List.mem_append_left _ z)
        · rw [List.mem_singleton.mp z, upd_same]
          rfl⟩ (fun a ha => .inl (by
        have e1 : (Res.vers p (cs ++ [(n, b, [w])])).adrs = (Res.vers p (cs ++ [(n, b, [])])).adrs := by
          show p :: List.map (fun c : Str × Addr × List Int => c.2.1) _ = p :: List.map (fun c : Str × Addr × List Int => c.2.1) _
          rw [List.map_append, List.map_append]
          rfl
        rw [← e1]
        exact ha)) (by
        have e1 : (Res.vers p (cs ++ [(n, b, [w])])).adrs = p :: (cs ++ [((n, b, []) : Str × Addr × List Int)]).map (·.2.1) := by
          show p :: List.map (fun c : Str × Addr × List Int => c.2.1) _ = p :: List.map (fun c : Str × Addr × List Int => c.2.1) _
          rw [List.map_append, List.map_append]
          rfl
        rw [e1]
        exact nd4)
    rw [List.set_set] at en5
    refine kn ρ _ F3 _ σ (q _ ?_ (fun a ha => by rw [List.map_append]; exact List.mem_append_left _ ha)) en5 ((((g1.fr en.e.fh).trans fr3).trans (g3.fr en3.e.fh)).trans fr5)
    unfold appV
    have an : ¬ ((vrOf cs).any fun p => decide (p.1 = n)) = true := fun z => by
      obtain ⟨x, hx, e⟩ := List.any_eq_true.mp z
      obtain ⟨c, hc, rfl⟩ := List.mem_map.mp hx
      exact hv c hc e
    rw [if_neg an]
    unfold vrOf
    rw [List.map_append]
    rfl
end
end Tk

set_option Elab.async false
set_option linter.all false
set_option maxRecDepth 100000
set_option maxHeartbeats 2000000
/-! Tj5: loops, calls as statements, what is handed back. -/
namespace Tk
open PySem PySem.Spec PyProof.Rows L2
/-! ### loops -/
def WjD (wi : TI) (ρ : Ro) (Z : Zs) (P : List D → Zs → Prop) : Prop := ∀ B F H σ, EnvJ B F H σ ρ Z → ∀ R : It → Hp → Prop, (∀ ds J F' H' Z', P ds Z' → EnvJ B F' H' σ ρ Z' → Fr F H F' H' → WkJ J ds F' H' → R J H') → wi σ H R
section
variable {ρ : Ro} {Z : Zs} {te ta : TE} {t : TS} {g : TG} {wi : TI} {ds : List D} {Φ : PoJ} {K : PySem.W.Frag} {P : List D → Zs → Prop}
theorem wj_ev (h : WkD wi ρ ds) (p : P ds Z) : WjD wi ρ Z P := fun B F H σ en R k => h B F H σ en.e _ fun J F' H' gw W => k ds J F' H' Z p (en.gw gw) (gw.fr en.e.fh) W
/-- over range(n), n told by what changes things -/
theorem wj_range (h : EvJ te ρ Z fun d Z' => ∃ n : Nat, d = .int (n : Int) ∧ n ≤ 10000 ∧ P (upto n) Z') : WjD (iRng1 (tCons te tNil)) ρ Z P := fun B F H σ en R k => h B F H σ en _ fun d v F1 H1 Z1 ⟨n, e, hn, p⟩ en1 fr r => by
  subst e
  have r : v = .int n := r
  subst r
  refine ⟨n, rfl, by omega, by omega, ?_⟩
  rw [Int.toNat_natCast]
  refine k _ _ F1 H1 Z1 p en1 fr ⟨fun i F2 H2 hi fr2 => by rw [upto_len] at hi; exact hi, fun F2 H2 fr2 => by rw [upto_len]; exact Nat.le_refl n, fun i F2 H2 x H' hi fr2 hF y => ?_⟩
  obtain ⟨rfl, rfl⟩ := y
  rw [upto_len] at hi
  exact ⟨F2, _, Gw.refl hF, upto_get hi, by show V.int _ = V.int _; rw [Int.zero_add]⟩
def TgJ (g : TG) (d : D) (ρ ρ' : Ro) : Prop := ∃ S, TgD g S d ρ ρ' ∧ ∀ (i : Nat) (x : Ent), ρ'[i]? = some x → plE x ∨ ρ[i]? = some x
theorem tj_name {i : Nat} {d : D} : TgJ (gName i) d ρ (ρ.set i (Ent.im d)) := ⟨[i], tg_name, fun j x h => by
  by_cases c : i = j
  · subst c
    rw [← (get_set_self h).1]
    exact .inl True.intro
  · rw [List.getElem?_set_ne c] at h
    exact .inr h⟩
theorem sj_for (vs : List Nat) (hw : WjD wi ρ Z P) (h : ∀ ds Z1, P ds Z1 → ∃ I : Nat → Ro → Zs → Prop, I 0 (wipeE ρ vs) Z1 ∧
    (∀ (i : Nat) (d : D) ρ' Z', ds[i]? = some d → I i ρ' Z' → ∃ ρ2, TgJ g d ρ' ρ2 ∧ SwJ t ρ2 Z' { Φ with nx := fun ρ3 Z3 => I (i + 1) (wipeE ρ3 vs) Z3, ct := fun ρ3 Z3 => I (i + 1) (wipeE ρ3 vs) Z3, bk := Φ.nx }) ∧ ∀ ρ' Z', I ds.length ρ' Z' → Φ.nx ρ' Z') : SwJ (tFor wi g t) ρ Z Φ := fun B F H σ en Dn kn kr kb kc =>
  hw B F H σ en _ fun ds J F1 H1 Z1 p en1 fr0 W => by
    obtain ⟨I, h0, hs, hd⟩ := h ds Z1 p
    refine ⟨fun i m σ' H' => m = ds.length - i ∧ i ≤ ds.length ∧ ∃ ρ' Z' F', I i ρ' Z' ∧ EnvJ B F' H' σ' ρ' Z' ∧ Fr F1 H1 F' H', ⟨_, rfl, Nat.zero_le _, _, Z1, F1, h0, en1.forget vs, Fr.refl⟩, ?_⟩
    rintro i m σ' H' ⟨rfl, hi, ρ', Z', F', inv, en', fr⟩
    by_cases c : i < ds.length
    · refine .inr ⟨W.go i F' H' c fr, fun σ2 H2 => ∃ ρ2 Z2 F2, I (i + 1) ρ2 Z2 ∧ EnvJ B F2 H2 σ2 ρ2 Z2 ∧ Fr F1 H1 F2 H2, fun σ2 H2 ⟨ρ2, Z2, F2, a, b, e⟩ => ⟨ds.length - (i + 1), by omega, rfl, c, ρ2, Z2, F2, a, b, e⟩, fun x H2 y => ?_⟩
      obtain ⟨F2, d, g2, hd2, r2⟩ := W.yld i F' H' x H2 c fr en'.e.fh y
      obtain ⟨ρ2, ⟨S, tg, pl⟩, sw⟩ := hs i d ρ' Z' hd2 inv
      have en2 := en'.gw g2
      have fr2 := fr.trans (g2.fr en'.e.fh)
      exact tg B F2 H2 σ' x en2.e r2 _ fun σ3 en3 _ _ => sw B F2 H2 σ3 ⟨en3, en2.z, en2.nb, fun j x h => (pl j x h).elim id fun q => en2.pl j x q⟩ _ (fun ρ4 Z4 F4 H4 σ4 a b e => ⟨_, Z4, F4, a, b.forget vs, fr2.trans e⟩) kr
        (fun ρ4 Z4 F4 H4 σ4 a b e => kn ρ4 Z4 F4 H4 σ4 a b ((fr0.trans fr2).trans e)) (fun ρ4 Z4 F4 H4 σ4 a b e => ⟨_, Z4, F4, a, b.forget vs, fr2.trans e⟩)
    · have e : i = ds.length := by omega
      subst e
      exact .inl ⟨W.stop F' H' fr, kn ρ' Z' F' H' σ' (hd ρ' Z' inv) en' (fr0.trans fr)⟩
theorem sj_while (vs : List Nat) {c : TT} (I : Nat → Ro → Zs → Prop) (m0 : Nat) (h0 : I m0 (wipeE ρ vs) Z)
    (hs : ∀ m ρ' Z', I m ρ' Z' → EtJ c ρ' Z' fun b Z2 => (b = true → SwJ t ρ' Z2 { Φ with nx := fun ρ2 Z3 => ∃ m', m' < m ∧ I m' (wipeE ρ2 vs) Z3, ct := fun ρ2 Z3 => ∃ m', m' < m ∧ I m' (wipeE ρ2 vs) Z3, bk := Φ.nx }) ∧ (b = false → Φ.nx ρ' Z2)) : SwJ (tWhile c t) ρ Z Φ := fun B F H σ en Dn kn kr kb kc => by
  refine ⟨fun m σ' H' => ∃ ρ' Z' F', I m ρ' Z' ∧ EnvJ B F' H' σ' ρ' Z' ∧ Fr F H F' H', ⟨m0, _, Z, F, h0, en.forget vs, Fr.refl⟩, ?_⟩
  rintro m σ' H' ⟨ρ', Z', F', inv, en', fr⟩
  refine hs m ρ' Z' inv B F' H' σ' en' _ fun b F1 H1 Z1 ⟨h1, h2⟩ en1 fr1 => ?_
  cases b with
  | true =>
    rw [if_pos rfl]
    refine ⟨fun σ2 H2 => ∃ ρ2 Z2 F2, (∃ m', m' < m ∧ I m' ρ2 Z2) ∧ EnvJ B F2 H2 σ2 ρ2 Z2 ∧ Fr F H F2 H2, fun σ2 H2 ⟨ρ2, Z2, F2, ⟨m', l, a⟩, b, e⟩ => ⟨m', l, ρ2, Z2, F2, a, b, e⟩, ?_⟩
    exact h1 rfl B F1 H1 σ' en1 _ (fun ρ4 Z4 F4 H4 σ4 ⟨m', l, a⟩ b e => ⟨_, Z4, F4, ⟨m', l, a⟩, b.forget vs, (fr.trans fr1).trans e⟩) kr (fun ρ4 Z4 F4 H4 σ4 a b e => kn ρ4 Z4 F4 H4 σ4 a b ((fr.trans fr1).trans e)) (fun ρ4 Z4 F4 H4 σ4 ⟨m', l, a⟩ b e => ⟨_, Z4, F4, ⟨m', l, a⟩, b.forget vs, (fr.trans fr1).trans e⟩)
  | false =>
    rw [if_neg Bool.false_ne_true]
    exact kn ρ' Z1 F1 H1 σ' (h2 rfl) en1 (fr.trans fr1)
/-- a statement of the data logic on the frozen view, nothing handed over but flat data -/
theorem sj_drop (h : EvJ te ρ Z fun _ Z' => Φ.nx ρ Z') : SwJ (tDrop te) ρ Z Φ := fun B F H σ en Dn kn kr kb kc => h B F H σ en _ fun d v F1 H1 Z1 p en1 fr r => kn ρ Z1 F1 H1 σ p en1 fr
/-- a cell becomes a datum for good -/
theorem EnvJ.thaw {B : Bs} {F : FS} {H : Hp} {σ : L2.St} {Z1 : Zs} {p : Addr} {d : D} {i : Nat} (e : EnvJ B F H σ ρ (Z ++ [.cell p d])) (hi : ρ[i]? = some (.ptr p)) : EnvJ B (addF F p) H σ (ρ.set i (.im d)) Z ∧ Fr F H (addF F p) H := by
  have m : MutC F H d p := e.z.at_ (.cell p d) (by simp)
  have pin : p ∈ adrs (Z ++ [.cell p d]) := mem_adrs_app.mpr (.inr (by simp [adrs, Res.adrs]))
  have np : ∀ a ∈ adrs Z, a ≠ p := fun a ha z => e.z.apart ha (by rw [z]; simp [adrs, Res.adrs])
  have hil : i < ρ.length := (List.getElem?_eq_some_iff.mp hi).1
  refine ⟨⟨⟨by rw [List.length_set]; exact e.e.len, fun j d' h => ?_, fun j d' h => ?_, fun j k d1 d2 q h => ?_, fun j a kds h => ?_, fun j a h => ?_, fun a f => ?_, fun a f => .inl (e.e.bf a f), e.e.bs, fun a f => ?_⟩, ⟨fun z hz => Res.to mo_add (e.z.at_ z (List.mem_append_left _ hz)) fun _ _ => rfl, fun a ha f => ?_, ?_⟩, fun a ha => e.nb a (mem_adrs_app.mpr (.inl ha)), fun j x h => ?_⟩, fun _ h => .inl h, fun _ _ => rfl⟩
  · by_cases c : i = j
    · subst c
      obtain ⟨q, _⟩ := get_set_self h
      cases q
      exact ⟨_, e.e.pt i p hi, MutC.rp (.inr rfl) (m.at mo_add rfl)⟩
    · rw [List.getElem?_set_ne c] at h
      obtain ⟨v, a, r⟩ := e.e.im j d' h
      exact ⟨v, a, Rp.mo mo_add _ _ r⟩
  · by_cases c : i = j
    · subst c
      exact nomatch (get_set_self h).1
    · rw [List.getElem?_set_ne c] at h
      exact (e.pl j _ h).elim
  · by_cases c : i = j
    · subst c
      exact nomatch (get_set_self h).1
    · rw [List.getElem?_set_ne c] at h
      exact (e.pl j _ h).elim
  · by_cases c : i = j
    · subst c
      exact nomatch (get_set_self h).1
    · rw [List.getElem?_set_ne c] at h
      exact (e.pl j _ h).elim
  · by_cases c : i = j
    · subst c
      exact nomatch (get_set_self h).1
    · rw [List.getElem?_set_ne c] at h
      exact e.e.pt j a h
  · rcases f with f | f
    · exact e.e.fh a f
    · rw [f]
      exact m.ne
  · rcases f with f | f
    · exact e.e.bn a f
    · exact .inr (f ▸ e.nb p pin)
  · rcases f with f | f
    · exact e.z.nf a (mem_adrs_app.mpr (.inl ha)) f
    · exact np a ha f
  · have := e.z.nd
    unfold adrs at this ⊢
    rw [List.flatMap_append] at this
    exact (List.nodup_append.mp this).1
  · by_cases c : i = j
    · subst c
      rw [← (get_set_self h).1]
      exact True.intro
    · rw [List.getElem?_set_ne c] at h
      exact e.pl j x h
theorem sj_thaw {Z1 : Zs} {p : Addr} {d : D} {i : Nat} (hi : ρ[i]? = some (.ptr p)) (pm : Z.Perm (Z1 ++ [.cell p d])) (h : SwJ t (ρ.set i (.im d)) Z1 Φ) : SwJ t ρ Z Φ := fun B F H σ en Dn kn kr kb kc => by
  obtain ⟨en1, fr⟩ := EnvJ.thaw (Z1 := Z1) (en.perm pm.symm) hi
  exact h B _ H σ en1 Dn (fun ρ2 Z2 F2 H2 σ2 a b c => kn ρ2 Z2 F2 H2 σ2 a b (fr.trans c)) kr (fun ρ2 Z2 F2 H2 σ2 a b c => kb ρ2 Z2 F2 H2 σ2 a b (fr.trans c)) (fun ρ2 Z2 F2 H2 σ2 a b c => kc ρ2 Z2 F2 H2 σ2 a b (fr.trans c))
/-- from here on nothing is changed: the data logic, one of its statements -/
theorem sj_sw {Ψ : Po} (h : Sw t ρ Ψ) (ho : Ψ.own = false) (hn : ∀ ρ', Ψ.nx ρ' → (∀ (i : Nat) (x : Ent), ρ'[i]? = some x → plE x) ∧ Φ.nx ρ' []) (hr : ∀ d, Ψ.rt d → Φ.rt (.d d) []) (hb : ∀ ρ', ¬ Ψ.bk ρ') (hc : ∀ ρ', ¬ Ψ.ct ρ') : SwJ t ρ [] Φ := fun B F H σ en Dn kn kr kb kc =>
  h B F H σ en.e Dn (fun ρ' F' H' σ' a b c => kn ρ' [] F' H' σ' (hn ρ' a).2 ⟨b, ⟨(fun _ h => nomatch h), (fun _ h => nomatch h), List.nodup_nil⟩, (fun _ h => nomatch h), (hn ρ' a).1⟩ c) (fun d v F' H' a b c => kr (.d d) v F' H' [] (hr d a) b ⟨(fun _ h => nomatch h), (fun _ h => nomatch h), List.nodup_nil⟩ (fun _ h => nomatch h) (by
    unfold RetD at c
    rw [ho] at c
    exact c)) (fun ρ' F' H' σ' a => (hb ρ' a).elim) fun ρ' F' H' σ' a => (hc ρ' a).elim
end
end Tk

set_option Elab.async false
set_option linter.all false
set_option maxRecDepth 100000
set_option maxHeartbeats 2000000
/-! Tj6: comprehensions whose items change things; texts. -/
namespace Tk
open PySem PySem.Spec PyProof.Rows L2
section
variable {B : Bs} {F : FS} {H : Hp} {σ : L2.St} {ρ : Ro} {Z Z2 : Zs}
/-- the frame around an evaluation that had a base of its own -/
theorem EnvJ.rest {B2 : Bs} {F' : FS} {H' : Hp} {σ2 : L2.St} {ρ2 : Ro} (e : EnvR B F H σ ρ) (pl : ∀ (i : Nat) (x : Ent), ρ[i]? = some x → plE x) (e2 : EnvJ B2 F' H' σ2 ρ2 Z2) (fr : Fr F H F' H') (hF : ∀ a, B2.F a → F a) (hb : ∀ a o, B.H a = some o → B2.H a = some o) : EnvJ B F' H' σ ρ Z2 := by
  have none_of : ∀ a, B2.H a = none → B.H a = none := fun a h => by
    cases c : B.H a with
    | none => rfl
    | some o =>
      rw [hb a o c] at h
      cases h
  refine ⟨⟨e.len, fun i d h => ?_, fun i d h => (pl i _ h).elim, fun i j d1 d2 p h => (pl i _ h).elim, fun i a kds h => (pl i _ h).elim, e.pt, e2.e.fh, fun a f => fr.f a (e.bf a f), fun a o h => e2.e.bs a o (hb a o h), fun a f => ?_⟩, e2.z, fun a ha => none_of a (e2.nb a ha), pl⟩
  · obtain ⟨v, a, r⟩ := e.im i d h
    exact ⟨v, a, Rp.mo fr.mo _ _ r⟩
  · rcases e2.e.bn a f with q | q
    · exact e.bn a (hF a q)
    · exact .inr (none_of a q)
theorem EnvJ.dropR (e : EnvJ B F H σ ρ (Z ++ Z2)) : EnvJ B F H σ ρ Z := ⟨e.e, e.z.left, fun a ha => e.nb a (mem_adrs_app.mpr (.inl ha)), e.pl⟩
end
section
variable {ρ : Ro} {Z : Zs} {te ta : TE} {tt : TT} {g : TG} {wi : TI} {K : PySem.W.Frag} {vs : List Nat}
/-- [e for .. in ..], e changes things; a new list -/
theorem en_lcJ {P : List D → Zs → Prop} {R : List D → Zs → Prop} (hw : WjD wi ρ Z P) (h : ∀ ds Z1, P ds Z1 → ds.length ≤ 9000 ∧ ∃ I : Nat → List D → Zs → Prop, I 0 [] Z1 ∧
    (∀ (i : Nat) (d : D) acc Z', ds[i]? = some d → acc.length = i → I i acc Z' → ∃ S ρ2, TgD g S d (wipeE ρ vs) ρ2 ∧ (∀ j ∈ S, j ∈ vs) ∧ (∀ (j : Nat) (x : Ent), ρ2[j]? = some x → plE x) ∧ EvJ te ρ2 Z' fun e Z2 => I (i + 1) (acc ++ [e]) Z2) ∧ ∀ acc Z', acc.length = ds.length → I ds.length acc Z' → R acc Z') :
    EvNJ (tLc wi g tYes te vs) ρ Z R := fun B F H σ en Q k =>
  hw B F H σ en _ fun ds J F1 H1 Z1 p en1 fr1 W D hD => by
    obtain ⟨hl, I, h0, hs, hd⟩ := h ds Z1 p
    have bD : B.H D = none := en1.e.bs.free hD
    have gD : Gw F1 H1 F1 (upd H1 D (.lst [])) := gw_upd en1.e.fh hD
    refine ⟨fun i m H' => m = ds.length - i ∧ i ≤ ds.length ∧ ∃ F' Z' acc, acc.length = i ∧ I i acc Z' ∧ EnvJ B F' H' σ ρ (Z' ++ [.cell D (.list acc)]) ∧ Fr F1 H1 F' H', ⟨_, rfl, Nat.zero_le _, F1, Z1, [], rfl, h0, (en1.gw gD).add (fun z => en1.z.there D z hD) (fun f => en1.e.fh D f hD) bD (show MutC F1 _ (.list []) D from ⟨[], upd_same, rfl⟩), gD.fr en1.e.fh⟩, ?_⟩
    rintro i m H' ⟨rfl, hi, F', Z', acc, la, inv, en', fr⟩
    by_cases c : i < ds.length
    · refine .inr ⟨W.go i F' H' c fr, fun H2 => ∃ F2 Z2 acc2, acc2.length = i + 1 ∧ I (i + 1) acc2 Z2 ∧ EnvJ B F2 H2 σ ρ (Z2 ++ [.cell D (.list acc2)]) ∧ Fr F1 H1 F2 H2, fun H2 ⟨F2, Z2, acc2, a, b, e, f⟩ => ⟨ds.length - (i + 1), by omega, rfl, c, F2, Z2, acc2, a, b, e, f⟩, fun x H2 y => ?_⟩
      obtain ⟨F2, d, g2, hd2, r2⟩ := W.yld i F' H' x H2 c fr en'.e.fh y
      obtain ⟨S, ρ2, tg, hS, pl, ev⟩ := hs i d acc Z' hd2 la inv
      have en2 := en'.gw g2
      refine tg B F2 H2 _ x (en2.e.wipe vs) r2 _ fun σ' en4 l4 k4 => ⟨?_, ?_⟩
      · have e := wipe_eq (σ := L2.wipe σ vs) (σ2 := σ') (vs := vs) l4 fun j hj => k4 j fun m => hj (hS j m)
        rw [e]
        exact wipe_eq (wipe_length σ vs) fun j hj => by rw [wipe_get, if_neg (fun c => hj c.1)]
      · unfold tYes
        dsimp only
        rw [if_pos rfl]
        -- the list that grows stands in the item's base
        have zl := en2.z.left
        have hDm : MutC F2 H2 (.list acc) D := en2.z.at_ (.cell D (.list acc)) (by simp)
        have nfD : ¬ F2 D := en2.z.nf D (mem_adrs_app.mpr (.inr (by simp [adrs, Res.adrs])))
        have nzD : D ∉ adrs Z' := fun m => en2.z.apart m (by simp [adrs, Res.adrs])
        obtain ⟨xs, hxs, rxs⟩ := hDm
        have en5 : EnvJ ⟨F2, fun a => if a = D then H2 D else B.H a⟩ F2 H2 σ' ρ2 Z' := by
          refine ⟨⟨en4.len, en4.im, fun i d h => (pl i _ h).elim, fun i j d1 d2 p h => (pl i _ h).elim, fun i a kds h => (pl i _ h).elim, en4.pt, en4.fh, fun _ h => h, fun a o h => ?_, fun _ h => .inl h⟩, zl, fun a ha => ?_, pl⟩
          · have h : (if a = D then H2 D else B.H a) = some o := h
            by_cases q : a = D
            · rw [if_pos q] at h
              rw [q]
              exact h
            · rw [if_neg q] at h
              exact en4.bs a o h
          · show (if a = D then H2 D else B.H a) = none
            rw [if_neg (fun q : a = D => nzD (by rw [← q]; exact ha))]
            exact en2.nb a (mem_adrs_app.mpr (.inl ha))
        refine ev _ F2 H2 σ' en5 _ fun e v F4 H4 Z4 i4 en6 fr6 r6 => ?_
        have hD4 : H4 D = some (.lst xs) := en6.e.bs D _ (by show (if D = D then H2 D else _) = _; rw [if_pos rfl]; exact hxs)
        have nf4 : ¬ F4 D := fun f => by
          rcases en6.e.bn D f with q | q
          · exact nfD q
          · have q : (if D = D then H2 D else B.H D) = none := q
            rw [if_pos rfl, hxs] at q
            cases q
        have nz4 : D ∉ adrs Z4 := fun m => by
          have q : (if D = D then H2 D else B.H D) = none := en6.nb D m
          rw [if_pos rfl, hxs] at q
          cases q
        have en7 : EnvJ B F4 H4 σ ρ Z4 := EnvJ.rest en2.e en.pl en6 fr6 (fun _ h => h) fun a o h => by
          show (if a = D then H2 D else B.H a) = some o
          by_cases q : a = D
          · rw [q, bD] at h
            cases h
          · rw [if_neg q]
            exact h
        have en8 := en7.add (p := D) (d := .list acc) nz4 nf4 bD ⟨xs, hD4, Rps.mo fr6.mo _ _ rxs⟩
        have hk : (Z4 ++ [Res.cell D (.list acc)])[Z4.length]? = some (.cell D (.list acc)) := by rw [List.getElem?_append_right (Nat.le_refl _), Nat.sub_self]; rfl
        obtain ⟨en9, fr9⟩ := en8.put (d' := .list (acc ++ [e])) (o := .lst (xs ++ [v])) hk ⟨_, upd_same, Rps.mo (mo_write nf4) _ _ ((Rps.mo fr6.mo _ _ rxs).append (Rps.one r6))⟩
        rw [List.set_append_right _ _ (Nat.le_refl _), Nat.sub_self] at en9
        exact ⟨xs, hD4, big_lt (by rw [rxs.len, la]; omega), F4, Z4, acc ++ [e], by rw [List.length_append, la]; rfl, i4, en9, ((fr.trans (g2.fr en'.e.fh)).trans fr6).trans fr9⟩
    · have e : i = ds.length := by omega
      subst e
      exact .inl ⟨W.stop F' H' fr, k acc D F' H' Z' (hd acc Z' la inv) en' (fr1.trans fr)⟩
/-- sep.join([..]) -/
theorem ej_join {to : TE} {a : Str} {P : D → Zs → Prop} (ho : Ev to ρ (.str a)) (h : EvNJ te ρ Z fun ds Z' => ∃ ys : List Str, ds = ys.map .str ∧ (ys.map (·.length)).sum + ys.length * a.length ≤ 16777216 ∧ P (.str (Txt.join a ys)) Z') :
    EvJ (tM1 (fun x xs H Q => ∃ a p, ∃ ys : List Str, x = .str a ∧ xs = [.ref p] ∧ (SqL K H p (ys.map V.str) ∨ SqT K H p (ys.map V.str)) ∧ (ys.map (·.length)).sum + ys.length * a.length ≤ 16777216 ∧ Q (.str (Txt.join a ys)) H) to te) ρ Z P := fun B F H σ en Q k =>
  ho B F H σ en.e _ fun v F1 H1 g1 r1 => ⟨⟨a, r1⟩, h B F1 H1 σ (en.gw g1) _ fun ds p F2 H2 Z2 ⟨ys, e, hl, pp⟩ en2 fr2 => by
    subst e
    have r1 : v = .str a := r1
    subst r1
    have m : MutC F2 H2 (.list (ys.map .str)) p := en2.z.at_ (.cell p (.list (ys.map .str))) (by simp)
    obtain ⟨xs, hx, rx⟩ := m
    have e := rx.strs
    subst e
    exact ⟨a, p, ys, rfl, rfl, .inl (SqL.of hx), hl, k _ _ F2 H2 Z2 pp en2.dropR ((g1.fr en.e.fh).trans fr2) rfl⟩⟩
/-- p.pop(j) -/
theorem Rps.erase {F : FS} {H : Hp} : ∀ {ds : List D} {vs : List V} {j : Nat}, Rps F H ds vs → Rps F H (ds.eraseIdx j) (vs.eraseIdx j)
  | [], vs, j, h => by
    have h : vs = [] := h
    subst h
    exact rfl
  | x :: ds, vs, 0, h => by
    obtain ⟨w, ws, rfl, _, q⟩ := h
    exact q
  | x :: ds, vs, j + 1, h => by
    obtain ⟨w, ws, rfl, p, q⟩ := h
    exact ⟨w, _, rfl, p, q.erase⟩
theorem ej_pop {i k : Nat} {p : Addr} {ds0 : List D} {P : D → Zs → Prop} (hi : ρ[i]? = some (Ent.ptr p)) (h0 : Z[k]? = some (.cell p (.list ds0))) (h : EvJ te ρ Z fun d Z' => ∃ (k' : Nat) (ds : List D) (j : Nat) (f : D), d = .int (j : Int) ∧ j < 10000 ∧ Z'[k']? = some (.cell p (.list ds)) ∧ ds[j]? = some f ∧ P f (Z'.set k' (.cell p (.list (ds.eraseIdx j))))) :
    EvJ (tBM K "list" rPopAt (tVar i) (tCons te tNil)) ρ Z P := fun B F H σ en Q kk => by
  obtain ⟨⟨xs0, hp0, _⟩, _⟩ := en.cellAt h0
  refine ⟨.ref p, en.e.pt i p hi, .inl ⟨rfl, xs0, SqL.of hp0⟩, h B F H σ en _ fun d v F1 H1 Z1 ⟨k', ds, j, f, e, hj, hk, hf, pp⟩ en1 fr r => ?_⟩
  subst e
  have r : v = .int (j : Int) := r
  subst r
  obtain ⟨⟨xs, hp, rx⟩, nf⟩ := en1.cellAt hk
  obtain ⟨y, hy, ry⟩ := rx.get hf
  have lt : j < xs.length := (List.getElem?_eq_some_iff.mp hy).1
  obtain ⟨en2, fr2⟩ := en1.put (d' := .list (ds.eraseIdx j)) (o := .lst (xs.eraseIdx j)) hk ⟨_, upd_same, Rps.mo (mo_write nf) _ _ rx.erase⟩
  exact ⟨p, xs, j, j, y, rfl, rfl, hp, by omega, by omega, (ixN_seq (ix_nat' lt)).1, hy, kk f y F1 _ _ pp en2 (fr.trans fr2) (Rp.mo fr2.mo _ _ ry)⟩
end
end Tk

set_option Elab.async false
set_option linter.all false
set_option maxRecDepth 100000
set_option maxHeartbeats 4000000
/-! E1: the jar, what is taken from it. -/
namespace Tk
open PySem PySem.Spec PyProof.Rows L2 Dm
def JarOk (x f : Int) : Prop := (f = 0 ∧ 0 ≤ x) ∨ (f = 1 ∧ 0 ≤ x ∧ x < 998244353)
def jarD (x f : Int) : D := .list [.int x, .int f]
section
variable {P : Program} {w : World} {K : PySem.W.Frag} {mg : Str → Option Value} {base : Heap}
theorem rv_mod {i j : Int} (h : 0 < j) : RvD (rI (fun _ j => 0 < j) fun i j => .int (i % j)) (.int i) (.int j) (.int (i % j)) := rv_I h fun _ _ => rfl
abbrev s__law_jar : Stmt := topS 35
theorem sc__law_jar : FnScope ["cell", "low"] ["cell"] (defScope s__law_jar) := ⟨rfl, rfl, rfl, by decide +kernel, rfl, by decide +kernel, by decide +kernel⟩
def pJar (ds : List D) : Prop := ∃ c : Int, ds = [.int c]
def rJar (_ : List D) (r : D) : Prop := ∃ x f, r = jarD x f ∧ JarOk x f
theorem cal__law_jar (F : DefAt K mg "_law_jar" s__law_jar ["cell"]) (T : Bt mg) : Cal P w K mg base "_law_jar" ["cell"] 1 (CtN pJar rJar) := by
  refine cal_dataN F sc__law_jar (fun ds ⟨c, e⟩ => by rw [e]; rfl) (fun f cdv A outer s H E hr => ?_)
  refine ⟨_, (pss_cons (ps_if (pt_cmpR op_ge (pv 0) (pe_op op_pow pe_int pe_int) (nomark _)) (pss_one (ps_ret (pe_lst (pa_cons (pe_op op_sub (pv 0) (pe_op op_pow pe_int pe_int)) (pa_cons pe_int pa_nil))))) pss_nil)
      (pss_cons (ps_set (i := 1) sc__law_jar.nd rfl (.inl rfl) (pe_op op_mod (pv 0) pe_int))
      (pss_cons (ps_set (i := 1) sc__law_jar.nd rfl (.inl rfl) (pe_op op_mod (pe_op op_mul (pv 1) (pv 1)) pe_int))
      (pss_one (ps_ret (pe_lst (pa_cons (pe_op op_mod (pe_op op_mul (pv 1) (pe_op op_add (pv 1) pe_int)) pe_int) (pa_cons pe_int pa_nil)))))))), fun ds ⟨c, e⟩ => ?_⟩
  subst e
  have pw : ∀ {ρ : Ro}, Ev (tOp (rI CPow fun i j => .int (i ^ j.toNat)) (tC (.int 10)) (tC (.int 18))) ρ (.int (10 ^ 18)) := ev_op ev_int ev_int (rv_I ⟨by decide, by decide, by decide⟩ fun _ _ => rfl)
  have M : (0 : Int) < 998244353 := by decide
  refine sw_seq (sw_if (et_test (ev_op (ev_var rfl) pw rv_ge)) (fun h => ?_) (fun _ => sw_next ?_))
  · have h := of_decide_eq_true h
    exact sw_retE (en_lst (ea_cons (ev_op (ev_var rfl) pw rv_sub) (ea_cons ev_int ea_nil)) (by simp)) ⟨c - 10 ^ 18, 0, rfl, .inl ⟨rfl, by omega⟩⟩
  · refine sw_seq (sw_asg (ev_op (ev_var rfl) ev_int (rv_mod M)) ?_)
    have l0 := Int.emod_nonneg c (show (998244353 : Int) ≠ 0 by decide)
    have l1 := Int.emod_lt_of_pos c M
    generalize c % 998244353 = low at l0 l1
    refine sw_seq (sw_asg (ev_op (ev_op (ev_var rfl) (ev_var rfl) (rv_I (C := CMul) (f := .int (low * low)) (.inl ⟨by omega, by omega⟩) fun _ _ => rfl)) ev_int (rv_mod M)) ?_)
    have m0 := Int.emod_nonneg (low * low) (show (998244353 : Int) ≠ 0 by decide)
    have m1 := Int.emod_lt_of_pos (low * low) M
    generalize low * low % 998244353 = y at m0 m1
    refine sw_retE (en_lst (ea_cons (ev_op (ev_op (ev_var rfl) (ev_op (ev_var rfl) ev_int rv_add) (rv_I (C := CMul) (f := .int (y * (y + 17))) (.inl ⟨by omega, by omega⟩) fun _ _ => rfl)) ev_int (rv_mod M)) (ea_cons ev_int ea_nil)) (by simp)) ⟨y * (y + 17) % 998244353, 1, rfl, .inr ⟨rfl, Int.emod_nonneg _ (by decide), Int.emod_lt_of_pos _ M⟩⟩
theorem enp_jar {ρ : Ro} {ta : TA} {E : XK} {c : Int} (h : EvA ta ρ [.int c]) : ∀ B F H σ, EnvR B F H σ ρ → ∀ Q : VK, (∀ p F' H' x f, JarOk x f → H p = none → Gw F H F' H' → ¬ F' p → MutC F' H' (jarD x f) p → Q (.ref p) H') → tCall (CtN pJar rJar) [] E ta σ H Q := fun B F H σ en Q k =>
  h B F H σ en _ fun vs F1 H1 g1 r1 => ⟨F1, _, g1.h, by rw [List.append_nil]; exact r1, ⟨c, rfl⟩, fun p F' H' d' ⟨x, f, e, ok⟩ hp g nf m => by
    subst e
    exact k p F' H' x f ok (g1.s.free hp) (g1.trans g) nf m⟩
/-! ### _law_take -/
abbrev s__law_take : Stmt := topS 36
theorem sc__law_take : FnScope ["jar", "many", "got"] ["jar", "many"] (defScope s__law_take) := ⟨rfl, rfl, rfl, by decide +kernel, rfl, by decide +kernel, by decide +kernel⟩
def pTk (es : List A) (Z : Zs) : Prop := ∃ (p : Addr) (x f m : Int), es = [.p p, .d (.int m)] ∧ Z = [.cell p (jarD x f)] ∧ JarOk x f ∧ 1 ≤ m ∧ m ≤ 100000
def rTk (es : List A) (_ : Zs) (r : A) (Z' : Zs) : Prop := ∃ (p : Addr) (x f m v : Int), es = [.p p, .d (.int m)] ∧ Z' = [.cell p (jarD x f)] ∧ JarOk x f ∧ r = .d (.int v) ∧ 0 ≤ v ∧ v < m
theorem cal__law_take (F : DefAt K mg "_law_take" s__law_take ["jar", "many"]) (T : Bt mg) : Cal P w K mg base "_law_take" ["jar", "many"] 1 (CtJ pTk rTk) := by
  refine cal_J F sc__law_take (fun es Z ⟨p, x, f, m, e, _⟩ => by rw [e]; rfl) (fun es Z r Z' ⟨p, x, f, m, e, ez, _⟩ ⟨p', x', f', m', v, e', ez', _⟩ a ha => ?_) (fun f cdv A outer s H E hr => ?_)
  · rw [e] at e'
    injection e' with e1 _
    injection e1 with e1
    subst e1
    rw [ez] at ha
    rw [ez']
    exact ha
  refine ⟨_, (pss_cons (ps_if (pt_cmpR op_eq (pe_ix ix_list (pv 0) pe_int (fun _ _ => rfl)) pe_int (nomark _)) (pss_cons (ps_set (i := 2) sc__law_take.nd rfl (.inl rfl) (pe_op op_mod (pe_ix ix_list (pv 0) pe_int (fun _ _ => rfl)) (pv 1)))
      (pss_cons (ps_asg (pe_op op_fdivN (pe_ix ix_list (pv 0) pe_int (fun _ _ => rfl)) (pv 1)) (pg_sub (pv 0) pe_int set_list))
      (pss_one (ps_ret (pv 2))))) pss_nil)
      (pss_cons (ps_asg (pe_op op_mod (pe_op op_mul (pe_op op_add (pe_ix ix_list (pv 0) pe_int (fun _ _ => rfl)) pe_int) (pe_op op_add (pe_ix ix_list (pv 0) pe_int (fun _ _ => rfl)) pe_int)) pe_int) (pg_sub (pv 0) pe_int set_list))
      (pss_one (ps_ret (pe_op op_mod (pe_op op_fdiv (pe_op op_mul (pe_ix ix_list (pv 0) pe_int (fun _ _ => rfl)) (pe_op op_pow pe_int pe_int)) pe_int) (pv 1)))))), fun es Z ⟨p, x, f, m, e, ez, ok, h1, h2⟩ => ?_⟩
  subst e ez
  have M : (0 : Int) < 998244353 := by decide
  have hm : (0 : Int) < m := by omega
  have fz : ∀ {u v : Int} {e3 : Ent}, FrzL [.cell p (jarD u v)] [.ptr p, .im (.int m), e3] [.im (jarD u v), .im (.int m), e3] := ⟨.cell (.head _), .same _, .same _, True.intro⟩
  have j0 : ∀ {u v : Int} {e3 : Ent}, Ev (tOp (rIxL K) (tVar 0) (tC (.int 0))) [.im (jarD u v), .im (.int m), e3] (.int u) := ev_op (d := jarD _ _) (ev_var rfl) ev_int (rv_ixL (atI_nat (j := 0) rfl))
  have j1 : ∀ {u v : Int} {e3 : Ent}, Ev (tOp (rIxL K) (tVar 0) (tC (.int 1))) [.im (jarD u v), .im (.int m), e3] (.int v) := ev_op (d := jarD _ _) (ev_var rfl) ev_int (rv_ixL (atI_nat (j := 1) rfl))
  refine sj_seq (sj_if (P := fun b Z1 => b = decide (f = 0) ∧ Z1 = [.cell p (jarD x f)]) (et_frz fz (et_test (ev_op j1 ev_int rv_eqI)) ⟨rfl, rfl⟩) (fun Z1 ⟨hb, ez⟩ => ?_) (fun Z1 ⟨hb, ez⟩ => sj_next ?_))
  · subst ez
    have hf : f = 0 := of_decide_eq_true hb.symm
    have hx : 0 ≤ x := by
      rcases ok with ⟨_, a⟩ | ⟨a, _⟩
      · exact a
      · omega
    refine sj_seq (sj_asg (ej_frz (d := .int (x % m)) fz (ev_op j0 (ev_var rfl) (rv_mod hm)) rfl ?_))
    refine sj_seq (sj_setIx (j := 0) (p := p) rfl (ej_frz (d := .int (x.fdiv m)) fz (ev_op j0 (ev_var rfl) (rv_I (C := CDivN) ⟨by omega, by omega⟩ fun _ _ => rfl)) rfl (ej_ev ev_int ⟨0, [.int x, .int f], rfl, rfl, Nat.zero_lt_succ _, ?_⟩)))
    refine sj_ret (ej_ev (ev_var rfl) ⟨p, x.fdiv m, f, m, x % m, rfl, rfl, .inl ⟨hf, ?_⟩, rfl, Int.emod_nonneg _ (by omega), Int.emod_lt_of_pos _ hm⟩)
    rw [Int.fdiv_eq_ediv_of_nonneg x (by omega)]
    exact Int.ediv_nonneg hx (by omega)
  · subst ez
    have hf : f ≠ 0 := of_decide_eq_false hb.symm
    obtain ⟨hf1, hx0, hx1⟩ : f = 1 ∧ 0 ≤ x ∧ x < 998244353 := by
      rcases ok with ⟨a, _⟩ | a
      · exact absurd a hf
      · exact a
    refine sj_seq (sj_setIx (j := 0) (p := p) rfl (ej_frz (d := .int ((x + 73939133) * (x + 1046527) % 998244353)) fz (ev_op (ev_op (ev_op j0 ev_int rv_add) (ev_op j0 ev_int rv_add) (rv_I (C := CMul) (f := .int ((x + 73939133) * (x + 1046527))) (.inl ⟨by omega, by omega⟩) fun _ _ => rfl)) ev_int (rv_mod M)) rfl (ej_ev ev_int ⟨0, [.int x, .int f], rfl, rfl, Nat.zero_lt_succ _, ?_⟩)))
    have y0 := Int.emod_nonneg ((x + 73939133) * (x + 1046527)) (show (998244353 : Int) ≠ 0 by decide)
    have y1 := Int.emod_lt_of_pos ((x + 73939133) * (x + 1046527)) M
    generalize (x + 73939133) * (x + 1046527) % 998244353 = y at y0 y1
    refine sj_ret (ej_frz (d := .int (y * (43112609 ^ 2) / 7 % m)) (ρ' := [.im (jarD y f), .im (.int m), .no]) fz (ev_op (ev_op (ev_op j0 (ev_op ev_int ev_int (rv_I (C := CPow) (f := .int (43112609 ^ 2)) ⟨by decide, by decide, by decide⟩ fun _ _ => rfl)) (rv_I (C := CMul) (f := .int (y * 43112609 ^ 2)) (.inl ⟨by omega, by omega⟩) fun _ _ => rfl)) ev_int (rv_I (C := CDiv) (f := .int (y * 43112609 ^ 2 / 7)) ⟨by decide, by decide⟩ fun _ _ => rfl)) (ev_var rfl) (rv_mod hm)) rfl ⟨p, y, f, m, _, rfl, rfl, .inr ⟨hf1, y0, y1⟩, rfl, Int.emod_nonneg _ (by omega), Int.emod_lt_of_pos _ hm⟩)
end
end Tk

set_option Elab.async false
set_option linter.all false
set_option maxRecDepth 100000
set_option maxHeartbeats 4000000
/-! E2: names, turns. -/
namespace Tk
open PySem PySem.Spec PyProof.Rows L2 Dm
section
variable {ρ : Ro} {Z : Zs} {te ta : TE} {tr : TA} {t : TS} {Φ : PoJ} {E : XK} {K : PySem.W.Frag}
theorem ej_take {i k : Nat} {p : Addr} {x f m : Int} {P : D → Zs → Prop} (hi : ρ[i]? = some (.ptr p)) (ht : EvJ te ρ Z fun d Z1 => d = .int m ∧ Z1 = Z) (hk : Z[k]? = some (.cell p (jarD x f))) (ok : JarOk x f) (h1 : 1 ≤ m) (h2 : m ≤ 100000)
    (c : ∀ v x' f', 0 ≤ v → v < m → JarOk x' f' → P (.int v) (Z.set k (.cell p (jarD x' f')))) : EvJ (tCall (CtJ pTk rTk) [] E (tCons (tVar i) (tCons te tNil))) ρ Z P :=
  ej_call (Pa := fun es Z1 => es = [.p p, .d (.int m)] ∧ Z1 = Z) (ea_p hi (ea_d ht fun d Z1 ⟨e1, e2⟩ => ea_nilJ ⟨by rw [e1], e2⟩)) fun es Z1 ⟨e1, e2⟩ => by
    subst e1 e2
    obtain ⟨r, p1, _⟩ := set_perm (y := Res.cell p (jarD x f)) hk
    refine ⟨[.cell p (jarD x f)], r, p1, ⟨p, x, f, m, rfl, rfl, ok, h1, h2⟩, fun r' Z' ⟨p', x', f', m', v, e, ez, ok', er, v0, v1⟩ => ?_⟩
    injection e with ep e
    injection ep with ep
    injection e with em _
    injection em with em
    injection em with em
    subst ep em er ez
    obtain ⟨r2, q1, q2⟩ := set_perm (y := Res.cell p (jarD x' f')) hk
    have rr : r2.Perm r := List.Perm.cons_inv (q1.symm.trans p1)
    exact ⟨_, _, rfl, q2.trans (rr.cons _), c v x' f' v0 v1 ok'⟩
theorem rpAs_data {F : FS} {H : Hp} : ∀ {ds : List D} {vs : List V}, RpAs F H (ds.map A.d) vs → Rps F H ds vs
  | [], vs, h => h
  | d :: ds, vs, h => by
    obtain ⟨v, ws, rfl, p, q⟩ := h
    exact ⟨v, ws, rfl, p, rpAs_data q⟩
theorem ej_lst {P : D → Zs → Prop} (h : EaJ tr ρ Z fun as Z' => ∃ ds : List D, as = ds.map A.d ∧ ds.length ≤ 10000 ∧ P (.list ds) Z') : EvJ (tLst tr) ρ Z P := fun B F H σ en Q k => h B F H σ en _ fun as vs F1 H1 Z1 ⟨ds, e, hl, pp⟩ en1 fr1 r1 _ => by
  subst e
  have rp : Rps F1 H1 ds vs := rpAs_data r1
  refine ⟨big_ok (by rw [rp.len]; exact hl), fun p hp => ?_⟩
  have g := Gw.new (o := .lst vs) en1.e.fh hp
  exact k _ _ (addF F1 p) _ Z1 pp (en1.gw g) (fr1.trans (g.fr en1.e.fh)) ⟨p, vs, rfl, .inr rfl, upd_same, rp.gw g⟩
theorem ej_tup {P : D → Zs → Prop} (h : EaJ tr ρ Z fun as Z' => ∃ ds : List D, as = ds.map A.d ∧ ds.length ≤ 10000 ∧ P (.tuple ds) Z') : EvJ (tTup tr) ρ Z P := fun B F H σ en Q k => h B F H σ en _ fun as vs F1 H1 Z1 ⟨ds, e, hl, pp⟩ en1 fr1 r1 _ => by
  subst e
  have rp : Rps F1 H1 ds vs := rpAs_data r1
  refine ⟨big_ok (by rw [rp.len]; exact hl), fun p hp => ?_⟩
  exact k _ _ (addF F1 p) _ Z1 pp (en1.gw (Gw.new en1.e.fh hp)) (fr1.trans ((Gw.new en1.e.fh hp).fr en1.e.fh)) (rp_newT en1.e.fh hp rp)
theorem sj_dropZ {Z1 Z2 : Zs} (pm : Z.Perm (Z1 ++ Z2)) (h : SwJ t ρ Z1 Φ) : SwJ t ρ Z Φ := fun B F H σ en Dn kn kr kb kc => h B F H σ (en.perm pm.symm).dropR Dn kn kr kb kc
theorem sj_asgM {i : Nat} (M : D → Zs → Prop) (h : EvJ te ρ Z M) (h2 : ∀ d Z', M d Z' → Φ.nx (ρ.set i (.im d)) Z') : SwJ (tAsg te (gName i)) ρ Z Φ := sj_asg (ej_to h h2)
/-! texts -/
theorem rv_ixS {z : Str} {i : Int} {c : Nat} (hz : z.length ≤ 10000) (h : atI z.cps.toList i = some c) : RvD rIxS (.str z) (.int i) (.str ⟨#[c]⟩) := fun F H x y Q hF hx hy k => ⟨z, i, c, hx, hy, big_ok hz, h, k _ F H (Gw.refl hF) rfl⟩
theorem rv_addS {a b : Str} (hl : a.length + b.length ≤ 10000) : RvD (fun x y H Q => ∃ i j, x = .str i ∧ y = .str j ∧ i.length + j.length ≤ sizeLine ∧ Q (.str (i ++ j)) H) (.str a) (.str b) (.str (a ++ b)) := fun F H x y Q hF hx hy k => ⟨a, b, hx, hy, big_ok hl, k _ F H (Gw.refl hF) rfl⟩
theorem ev_slS {z : Str} {lo hi : Option Int} {tl th : TO} (h : Ev te ρ (.str z)) (hl : EvO tl ρ lo) (hh : EvO th ρ hi) (hz : z.length ≤ 10000) : Ev (tSl rSlS te tl th) ρ (.str (cutS z lo hi)) := fun B F H σ en Q k =>
  h B F H σ en _ fun v F1 H1 g1 r1 => hl B F1 H1 σ (en.gw g1) _ fun F2 H2 g2 => hh B F2 H2 σ ((en.gw g1).gw g2) _ fun F3 H3 g3 => ⟨z, r1, big_ok hz, k _ F3 H3 ((g1.trans g2).trans g3) rfl⟩
theorem ev_find {a b : Str} {tx ty : TE} (ha : Ev tx ρ (.str a)) (hb : Ev ty ρ (.str b)) : Ev (tM1 (fun x xs H Q => ∃ a b, x = .str a ∧ xs = [.str b] ∧ Q (.int (Txt.find a b)) H) tx ty) ρ (.int (Txt.find a b)) := fun B F H σ en Q k =>
  ha B F H σ en _ fun v F1 H1 g1 r1 => ⟨⟨a, r1⟩, hb B F1 H1 σ (en.gw g1) _ fun u F2 H2 g2 r2 => by
    have r1 : v = .str a := r1
    have r2 : u = .str b := r2
    subst r1 r2
    exact ⟨a, b, rfl, rfl, k _ F2 H2 (g1.trans g2) rfl⟩⟩
end
theorem join_one (cs : List Nat) : (Txt.join ("" : Str) (cs.map fun c => ⟨#[c]⟩)).cps.toList = cs := by
  rw [TL.join_eq]
  have e0 : ("" : Str).cps = #[] := by decide +kernel
  have ea : ∀ a b : Str, (a ++ b).cps = a.cps ++ b.cps := fun a b => rfl
  induction cs with
  | nil => decide +kernel
  | cons c cs ih =>
    cases cs with
    | nil => rfl
    | cons c2 r =>
      show (Str.join "" ((⟨#[c]⟩ : Str) :: (⟨#[c2]⟩ : Str) :: r.map fun c => ⟨#[c]⟩)).cps.toList = _
      rw [Str.join]
      · rw [ea, ea, e0]
        have ih : (Str.join "" ((⟨#[c2]⟩ : Str) :: r.map fun c => ⟨#[c]⟩)).cps.toList = c2 :: r := ih
        simp [ih]
      · intro h
        cases h
end Tk

set_option Elab.async false
set_option linter.all false
set_option maxRecDepth 100000
set_option maxHeartbeats 4000000
/-! E3: the names. -/
namespace Tk
open PySem PySem.Spec PyProof.Rows L2 Dm
theorem letters_len : letters.cps.toList.length = 26 := by decide +kernel
theorem letter_at {i : Int} (h0 : 0 ≤ i) (h1 : i < 26) : ∃ c, atI letters.cps.toList i = some c ∧ c ∈ letters.cps.toList := by
  obtain ⟨n, rfl⟩ := Int.eq_ofNat_of_zero_le h0
  have hn : n < letters.cps.toList.length := by rw [letters_len]; omega
  exact ⟨_, atI_nat (List.getElem?_eq_getElem hn), List.getElem_mem hn⟩
theorem letters_small : letters.length ≤ 10000 := by decide +kernel
theorem cps_app (a b : Str) : (a ++ b).cps.toList = a.cps.toList ++ b.cps.toList := by
  show (a.cps ++ b.cps).toList = _
  simp
theorem len_cps (a : Str) : a.length = a.cps.toList.length := by
  show a.cps.size = _
  rw [Array.length_toList]
section
variable {P : Program} {w : World} {K : PySem.W.Frag} {mg : Str → Option Value} {base : Heap}
abbrev s__law_names : Stmt := topS 37
theorem sc__law_names : FnScope ["jar", "letters", "base", "first", "k"] ["jar"] (defScope s__law_names) := ⟨rfl, rfl, rfl, by decide +kernel, rfl, by decide +kernel, by decide +kernel⟩
def pNm (es : List A) (Z : Zs) : Prop := ∃ (p : Addr) (x f : Int), es = [.p p] ∧ Z = [.cell p (jarD x f)] ∧ JarOk x f
def rNm (es : List A) (_ : Zs) (r : A) (Z' : Zs) : Prop := ∃ (p : Addr) (x f : Int) (n1 n2 n3 : Str), es = [.p p] ∧ Z' = [.cell p (jarD x f)] ∧ JarOk x f ∧ r = .d (.list [.str n1, .str n2, .str n3]) ∧ NameOk n1 ∧ NameOk n2 ∧ NameOk n3
theorem cal__law_names (F : DefAt K mg "_law_names" s__law_names ["jar"]) (T : Bt mg) (C__law_take : Cal P w K mg base "_law_take" ["jar", "many"] 1 (CtJ pTk rTk)) : Cal P w K mg base "_law_names" ["jar"] 2 (CtJ pNm rNm) := by
  refine cal_J F sc__law_names (fun es Z ⟨p, x, f, e, _⟩ => by rw [e]; rfl) (fun es Z r Z' ⟨p, x, f, e, ez, _⟩ ⟨p', x', f', n1, n2, n3, e', ez', _⟩ a ha => ?_) (fun f cdv A outer s H E hr => ?_)
  · rw [e] at e'
    injection e' with e1 _
    injection e1 with e1
    subst e1
    rw [ez] at ha
    rw [ez']
    exact ha
  refine ⟨_, (pss_cons (ps_set (i := 1) sc__law_names.nd rfl (.inr rfl) pe_str)
      (pss_cons (ps_set (i := 2) sc__law_names.nd rfl (.inl rfl) (pe_join pe_str (pe_lc (own := [("k", 4)]) (g := gName 4) (by rfl) sc__law_names.nd (pi_range1 rfl T.range_ (pa_cons (pe_op op_add pe_int (pe_callC _ C__law_take hr (pa_cons (pv 0) (pa_cons pe_int pa_nil)))) pa_nil)) (blkOk_by (own := [("k", 4)]) (N := ["jar", "letters", "base", "first", "k"]) (sc := defScope s__law_names) (by decide +kernel)) (fun _ _ _ _ _ => (pg_name (i := 4) sc__law_names.nd rfl (.inl rfl) (.inr rfl))) (fun _ _ _ _ _ => pts_nil) (fun _ _ _ _ _ => (pe_ix ix_str (pv 1) (pe_callC _ C__law_take hr (pa_cons (pv 0) (pa_cons pe_int pa_nil))) (fun _ _ => rfl))))))
      (pss_cons (ps_set (i := 3) sc__law_names.nd rfl (.inl rfl) (pe_m1 PySem.F.slot_str_find PySem.F.type_str_find mt_find (pv 1) (pe_ix ix_str (pv 2) pe_int (fun _ _ => rfl))))
      (pss_one (ps_ret (pe_lst (pa_cons (pv 2) (pa_cons (pe_op op_add_str (pv 2) (pe_ix ix_str (pv 1) (pe_callC _ C__law_take hr (pa_cons (pv 0) (pa_cons pe_int pa_nil))) (fun _ _ => rfl))) (pa_cons (pe_op op_add_str (pe_ix ix_str (pv 1) (pe_op op_mod (pe_op op_add (pe_op op_add (pv 3) pe_int) (pe_callC _ C__law_take hr (pa_cons (pv 0) (pa_cons pe_int pa_nil)))) pe_int) (fun _ _ => rfl)) (pe_slice sl_str (pv 2) (po_some pe_int) po_none)) pa_nil))))))))), fun es Z ⟨p, x, f, e, ez, ok⟩ => ?_⟩
  subst e ez
  refine sj_seq (sj_asg (ej_ev (d := .str letters) ev_str ?_))
  -- the base
  refine sj_seq (sj_asgM (fun d Z' => ∃ (b : Str) (x f : Int), d = .str b ∧ Z' = [.cell p (jarD x f)] ∧ JarOk x f ∧ 1 ≤ b.length ∧ b.length ≤ 7 ∧ ∀ c ∈ b.cps.toList, c ∈ letters.cps.toList)
    (ej_join ev_str (en_lcJ (P := fun ds Z' => ∃ (n : Nat) (x f : Int), ds = upto n ∧ 1 ≤ n ∧ n ≤ 7 ∧ Z' = [.cell p (jarD x f)] ∧ JarOk x f)
      (wj_range (ej_op (Pa := fun d Z1 => d = .int 1 ∧ Z1 = [.cell p (jarD x f)]) (ej_ev ev_int ⟨rfl, rfl⟩) fun d Z1 ⟨e1, e2⟩ => by
        subst e1 e2
        exact ej_take (k := 0) (m := 7) rfl (ej_ev ev_int ⟨rfl, rfl⟩) rfl ok (by decide) (by decide) fun v x' f' v0 v1 ok' => by
          obtain ⟨n, rfl⟩ := Int.eq_ofNat_of_zero_le v0
          exact ⟨.int (1 + (n : Int)), rv_add, 1 + n, congrArg D.int (by omega), by omega, 1 + n, x', f', rfl, by omega, by omega, rfl, ok'⟩))
      fun ds Z1 ⟨n, x1, f1, e, n1, n7, ez, ok1⟩ => ?_)) fun d Z' ⟨b, x2, f2, e, ez, ok2, b1, b7, bl⟩ => ?_)
  · subst e ez
    rw [upto_len]
    refine ⟨by omega, fun i acc Z' => ∃ (x f : Int) (cs : List Nat), JarOk x f ∧ Z' = [.cell p (jarD x f)] ∧ acc = cs.map (fun c => .str ⟨#[c]⟩) ∧ ∀ c ∈ cs, c ∈ letters.cps.toList, ⟨x1, f1, [], ok1, rfl, rfl, fun c h => nomatch h⟩, fun i d acc Z' hd la ⟨x, f, cs, ok, ez, ea, hc⟩ => ?_, fun acc Z' la ⟨x, f, cs, ok, ez, ea, hc⟩ => ?_⟩
    · subst ez
      refine ⟨_, _, tg_name, by decide, fun j x h => ?_, ej_op (Pa := fun d Z1 => d = .str letters ∧ Z1 = [.cell p (jarD _ _)]) (ej_ev (ev_var rfl) ⟨rfl, rfl⟩) fun d Z1 ⟨e1, e2⟩ => ?_⟩
      · have : j < 5 := (List.getElem?_eq_some_iff.mp h).1
        match j, h with
        | 0, h => cases h; exact True.intro
        | 1, h => cases h; exact True.intro
        | 2, h => cases h; exact True.intro
        | 3, h => cases h; exact True.intro
        | 4, h => cases h; exact True.intro
      · subst e1 e2
        exact ej_take (k := 0) (m := 26) rfl (ej_ev ev_int ⟨rfl, rfl⟩) rfl ok (by decide) (by decide) fun v x' f' v0 v1 ok' => by
          obtain ⟨c, h1, h2⟩ := letter_at v0 v1
          refine ⟨.str ⟨#[c]⟩, rv_ixS letters_small h1, x', f', cs ++ [c], ok', rfl, by rw [ea, List.map_append]; rfl, fun c' hc' => ?_⟩
          rcases List.mem_append.mp hc' with z | z
          · exact hc c' z
          · rw [List.mem_singleton.mp z]
            exact h2
    · have lc : cs.length = n := by
        have := la
        rw [ea, List.length_map] at this
        exact this
      refine ⟨cs.map fun c => ⟨#[c]⟩, by rw [ea, List.map_map]; rfl, ?_, Txt.join "" (cs.map fun c => ⟨#[c]⟩), x, f, rfl, ez, ok, ?_, ?_, ?_⟩
      · rw [List.map_map, List.length_map, show ("" : Str).length = 0 from by decide +kernel, Nat.mul_zero, Nat.add_zero]
        have : (cs.map ((fun x : Str => x.length) ∘ fun c => (⟨#[c]⟩ : Str))).sum = cs.length := by
          clear lc la ea hc
          induction cs with
          | nil => rfl
          | cons c r ih =>
            rw [List.map_cons, List.sum_cons, ih, List.length_cons]
            show 1 + r.length = _
            omega
        rw [this]
        omega
      · rw [len_cps, join_one, lc]
        exact n1
      · rw [len_cps, join_one, lc]
        exact n7
      · rw [join_one]
        exact hc
  · subst e ez
    obtain ⟨c0, hc0⟩ : ∃ c, atI b.cps.toList ((0 : Nat) : Int) = some c := by
      have : 0 < b.cps.toList.length := by rw [← len_cps]; omega
      exact ⟨_, atI_nat (List.getElem?_eq_getElem this)⟩
    refine sj_seq (sj_asg (ej_ev (ev_find (ev_var rfl) (ev_op (ev_var rfl) ev_int (rv_ixS (i := ((0 : Nat) : Int)) (by omega) hc0))) ?_))
    generalize Txt.find letters ⟨#[c0]⟩ = fst
    -- the three
    refine sj_ret (ej_lst (ea_d (Pa := fun d Z1 => d = .str b ∧ Z1 = [.cell p (jarD x2 f2)]) (ej_ev (ev_var rfl) ⟨rfl, rfl⟩) fun d Z1 ⟨e1, e2⟩ => ?_))
    subst e1 e2
    refine ea_d (Pa := fun d Z1 => ∃ (n : Str) (x f : Int), d = .str n ∧ NameOk n ∧ Z1 = [.cell p (jarD x f)] ∧ JarOk x f) (ej_op (Pa := fun d Z1 => d = .str b ∧ Z1 = [.cell p (jarD x2 f2)]) (ej_ev (ev_var rfl) ⟨rfl, rfl⟩) fun d Z1 ⟨e1, e2⟩ => ?_) fun d Z1 ⟨n2, x3, f3, e1, hn2, e2, ok3⟩ => ?_
    · subst e1 e2
      refine ej_op (Pa := fun d Z1 => d = .str letters ∧ Z1 = [.cell p (jarD x2 f2)]) (ej_ev (ev_var rfl) ⟨rfl, rfl⟩) fun d Z1 ⟨e1, e2⟩ => ?_
      subst e1 e2
      exact ej_take (k := 0) (m := 26) rfl (ej_ev ev_int ⟨rfl, rfl⟩) rfl ok2 (by decide) (by decide) fun v x' f' v0 v1 ok' => by
        obtain ⟨c, h1, h2⟩ := letter_at v0 v1
        have l1 : (⟨#[c]⟩ : Str).length = 1 := rfl
        refine ⟨.str ⟨#[c]⟩, rv_ixS letters_small h1, .str (b ++ ⟨#[c]⟩), rv_addS (by rw [l1]; omega), b ++ ⟨#[c]⟩, x', f', rfl, ⟨?_, ?_, fun c' hc' => ?_⟩, rfl, ok'⟩
        · rw [len_cps, cps_app, List.length_append, ← len_cps]
          omega
        · rw [len_cps, cps_app, List.length_append, ← len_cps]
          show b.length + 1 ≤ 8
          omega
        · rw [cps_app] at hc'
          rcases List.mem_append.mp hc' with z | z
          · exact bl c' z
          · have : c' = c := by simpa using z
            rw [this]
            exact h2
    · subst e1 e2
      refine ea_d (Pa := fun d Z1 => ∃ (n : Str) (x f : Int), d = .str n ∧ NameOk n ∧ Z1 = [.cell p (jarD x f)] ∧ JarOk x f) (ej_op (Pa := fun d Z1 => ∃ (c : Nat) (x f : Int), d = .str ⟨#[c]⟩ ∧ c ∈ letters.cps.toList ∧ Z1 = [.cell p (jarD x f)] ∧ JarOk x f) ?_ fun d Z1 ⟨c, x4, f4, e1, hc, e2, ok4⟩ => ?_) fun d Z1 ⟨n3, x5, f5, e1, hn3, e2, ok5⟩ => ?_
      · refine ej_op (Pa := fun d Z1 => d = .str letters ∧ Z1 = [.cell p (jarD x3 f3)]) (ej_ev (ev_var rfl) ⟨rfl, rfl⟩) fun d Z1 ⟨e1, e2⟩ => ?_
        subst e1 e2
        refine ej_op (Pa := fun d Z1 => ∃ (v x f : Int), d = .int v ∧ Z1 = [.cell p (jarD x f)] ∧ JarOk x f) (ej_op (Pa := fun d Z1 => d = .int (fst + 1) ∧ Z1 = [.cell p (jarD x3 f3)]) (ej_ev (ev_op (ev_var rfl) ev_int rv_add) ⟨rfl, rfl⟩) fun d Z1 ⟨e1, e2⟩ => ?_) fun d Z1 ⟨v, x, f, e1, e2, ok⟩ => ?_
        · subst e1 e2
          exact ej_take (k := 0) (m := 25) rfl (ej_ev ev_int ⟨rfl, rfl⟩) rfl ok3 (by decide) (by decide) fun v x' f' v0 v1 ok' => ⟨.int (fst + 1 + v), rv_add, _, x', f', rfl, rfl, ok'⟩
        · subst e1 e2
          refine ej_ev ev_int ?_
          have h26 : (0 : Int) < 26 := by decide
          obtain ⟨c, h1, h2⟩ := letter_at (Int.emod_nonneg v (by decide)) (Int.emod_lt_of_pos v h26)
          exact ⟨.int (v % 26), rv_mod h26, .str ⟨#[c]⟩, rv_ixS letters_small h1, c, x, f, rfl, h2, rfl, ok⟩
      · subst e1 e2
        refine ej_ev (ev_slS (ev_var (d := .str b) rfl) (eo_some (i := ((1 : Nat) : Int)) ev_int) eo_none (by omega)) ?_
        have hcut : (cutS b (some ((1 : Nat) : Int)) none).cps.toList = b.cps.toList.drop 1 := by
          unfold cutS
          rw [sIx_min, HT.sIx_none, Nat.min_eq_left b1]
          show (List.take (b.length - 1) (List.drop 1 b.cps.toList)) = _
          rw [List.take_of_length_le]
          rw [List.length_drop, len_cps]
          exact Nat.le_refl _
        have hl : (cutS b (some ((1 : Nat) : Int)) none).length = b.length - 1 := by rw [len_cps, hcut, List.length_drop, ← len_cps]
        have l1 : (⟨#[c]⟩ : Str).length = 1 := rfl
        refine ⟨.str (⟨#[c]⟩ ++ cutS b (some ((1 : Nat) : Int)) none), rv_addS (by rw [l1, hl]; omega), _, x4, f4, rfl, ⟨?_, ?_, fun c' hc' => ?_⟩, rfl, ok4⟩
        · rw [len_cps, cps_app, List.length_append]
          exact Nat.le_add_right 1 _
        · rw [len_cps, cps_app, List.length_append, ← len_cps (cutS _ _ _), hl]
          show 1 + (b.length - 1) ≤ 8
          omega
        · rw [cps_app, hcut] at hc'
          rcases List.mem_append.mp hc' with z | z
          · have : c' = c := by simpa using z
            rw [this]
            exact hc
          · exact bl c' (List.mem_of_mem_drop z)
      · subst e1 e2
        exact ea_nilJ ⟨[.str b, .str n2, .str n3], rfl, by simp, p, x5, f5, b, n2, n3, rfl, rfl, ok5, rfl, ⟨b1, by omega, bl⟩, hn2, hn3⟩
end
end Tk

set_option Elab.async false
set_option linter.all false
set_option maxRecDepth 100000
set_option maxHeartbeats 4000000
/-! E4: the turns. -/
namespace Tk
open PySem PySem.Spec PyProof.Rows L2 Dm
theorem EvN.cast {te : TE} {ρ : Ro} {d d' : D} (h : EvN te ρ d) (e : d = d') : EvN te ρ d' := e ▸ h
theorem erase_perm {α : Type} : ∀ {l : List α} {j : Nat} {x : α}, l[j]? = some x → (x :: l.eraseIdx j).Perm l
  | [], j, x, h => by simp at h
  | y :: l, 0, x, h => by
    cases h
    exact List.Perm.refl _
  | y :: l, j + 1, x, h => (List.Perm.swap y x _).trans ((erase_perm (l := l) (j := j) h).cons y)
theorem map_erase {α β : Type} (f : α → β) : ∀ (l : List α) (j : Nat), (l.map f).eraseIdx j = (l.eraseIdx j).map f
  | [], _ => rfl
  | y :: l, 0 => rfl
  | y :: l, j + 1 => by
    show f y :: (l.map f).eraseIdx j = f y :: (l.eraseIdx j).map f
    rw [map_erase f l j]
section
variable {P : Program} {w : World} {K : PySem.W.Frag} {mg : Str → Option Value} {base : Heap}
abbrev s__law_turns : Stmt := topS 38
theorem sc__law_turns : FnScope ["jar", "many", "left", "turns", "k"] ["jar", "many"] (defScope s__law_turns) := ⟨rfl, rfl, rfl, by decide +kernel, rfl, by decide +kernel, by decide +kernel⟩
def pTn (es : List A) (Z : Zs) : Prop := ∃ (p : Addr) (x f : Int) (n : Nat), es = [.p p, .d (.int (n : Int))] ∧ Z = [.cell p (jarD x f)] ∧ JarOk x f ∧ n ≤ 12
def rTn (es : List A) (_ : Zs) (r : A) (Z' : Zs) : Prop := ∃ (p : Addr) (x f : Int) (n : Nat) (t : List Nat), es = [.p p, .d (.int (n : Int))] ∧ Z' = [.cell p (jarD x f)] ∧ JarOk x f ∧ r = .d (.list ((nI t).map .int)) ∧ t.Perm (List.range n)
theorem cal__law_turns (F : DefAt K mg "_law_turns" s__law_turns ["jar", "many"]) (T : Bt mg) (C__law_take : Cal P w K mg base "_law_take" ["jar", "many"] 1 (CtJ pTk rTk)) : Cal P w K mg base "_law_turns" ["jar", "many"] 2 (CtJ pTn rTn) := by
  refine cal_J F sc__law_turns (fun es Z ⟨p, x, f, n, e, _⟩ => by rw [e]; rfl) (fun es Z r Z' ⟨p, x, f, n, e, ez, _⟩ ⟨p', x', f', n', t, e', ez', _⟩ a ha => ?_) (fun f cdv A outer s H E hr => ?_)
  · rw [e] at e'
    injection e' with e1 _
    injection e1 with e1
    subst e1
    rw [ez] at ha
    rw [ez']
    exact ha
  refine ⟨_, (pss_cons (ps_setLc (i := 2) (own := [("k", 4)]) (g := gName 4) (by rfl) sc__law_turns.nd rfl rfl (sw_true rfl rfl rfl (by decide +kernel)) (pi_range1 rfl T.range_ (pa_cons (pv 1) pa_nil)) (blkOk_by (own := [("k", 4)]) (N := ["jar", "many", "left", "turns", "k"]) (sc := defScope s__law_turns) (by decide +kernel)) (fun _ _ _ _ _ => (pg_name (i := 4) sc__law_turns.nd rfl (.inl rfl) (.inr rfl))) (fun _ _ _ _ _ => pts_nil) (fun _ _ _ _ _ => (pv 4)))
      (pss_cons (ps_set (i := 3) sc__law_turns.nd rfl (.inl rfl) (pe_lst pa_nil))
      (pss_cons (ps_while PassesOwn.never (pt_cmpR (op_neD hr.units) (pv 2) (pe_lst pa_nil) (nomark _)) (pss_one (ps_expr (pe_bm PySem.F.plainAttrs_list PySem.F.slot_list_append PySem.F.type_list_append mt_append (pv 3) (pa_cons (pe_bm PySem.F.plainAttrs_list PySem.F.slot_list_pop PySem.F.type_list_pop mt_popAt (pv 2) (pa_cons (pe_callC _ C__law_take hr (pa_cons (pv 0) (pa_cons (pe_callB call_len_seq (by rfl) T.len_ PySem.boot_len (pa_cons (pv 2) pa_nil)) pa_nil))) pa_nil)) pa_nil)))))
      (pss_one (ps_ret (pv 3)))))), fun es Z ⟨p, x, f, n, e, ez, ok, hn⟩ => ?_⟩
  subst e ez
  have eqL : D.list ((List.range n).filterMap fun x : Nat => some (D.int (x : Int))) = .list ((nI (List.range n)).map .int) := by
    rw [List.filterMap_eq_map']
    unfold nI
    rw [List.map_map]
    rfl
  refine sj_seq (sj_asgN (EvN.cast (en_lc (List.range n) (fun x : Nat => .int (x : Int)) (wk_range (ea_cons (ev_var rfl) ea_nil) (by omega)) (fun x => some (.int (x : Int))) (by rw [List.length_range]; omega) (fun i d hd => ⟨_, _, tg_name, by decide, et_yes, fun e he => by
    cases he
    exact ev_var rfl⟩)) eqL) fun pl => ?_)
  refine sj_seq (sj_asgN (en_lst ea_nil (by simp)) fun pt => ?_)
  refine sj_seq (sj_while [4] (fun m ρ Z => ∃ (x f : Int) (l t : List Nat), JarOk x f ∧ (t ++ l).Perm (List.range n) ∧ m = l.length ∧ ρ = [.ptr p, .im (.int (n : Int)), .ptr pl, .ptr pt, .no] ∧ Z = [.cell p (jarD x f), .cell pl (.list ((nI l).map .int)), .cell pt (.list ((nI t).map .int))]) n
    ⟨x, f, List.range n, [], ok, List.Perm.refl _, by rw [List.length_range], rfl, rfl⟩ (fun m ρ Z ⟨x, f, l, t, ok, pm, em, er, ez⟩ => ?_))
  subst er ez
  have len : t.length + l.length = n := by
    have := pm.length_eq
    rwa [List.length_append, List.length_range] at this
  refine et_frz (ρ' := [.ptr p, .im (.int (n : Int)), .im (.list ((nI l).map .int)), .ptr pt, .no]) (b := !decide (l = [])) ⟨.same _, .same _, .cell (.tail _ (.head _)), .same _, .same _, True.intro⟩ (EvT.cast (et_test (ev_op (ev_var rfl) (EvN.ev (en_lst ea_nil (by simp))) (rv_neD (ok_ints (nI l)) (ok_ints [])))) ?_) ⟨fun hb => ?_, fun hb => ?_⟩
  · rw [show (D.list []) = D.list (List.map D.int []) from rfl, eqvD_ints]
    congr 1
    refine decide_eq_decide.mpr ⟨fun h => List.map_eq_nil_iff.mp h, fun h => by rw [h]; rfl⟩
  · have ne : l ≠ [] := by simpa using hb
    have l1 : 1 ≤ l.length := by
      cases l with
      | nil => exact absurd rfl ne
      | cons a b => exact Nat.succ_pos _
    refine sj_append (p := pt) (k := 2) (ds := (nI t).map .int) rfl rfl (ej_pop (p := pl) (k := 1) (ds0 := (nI l).map .int) rfl rfl (ej_take (k := 0) (m := (l.length : Int)) rfl (ej_frz (d := .int (l.length : Int)) (ρ' := [.ptr p, .im (.int (n : Int)), .im (.list ((nI l).map .int)), .ptr pt, .no]) ⟨.same _, .same _, .cell (.tail _ (.head _)), .same _, .same _, True.intro⟩ (Ev.cast (ev_lenL (ev_var rfl)) (by rw [List.length_map, nI_len])) rfl ⟨rfl, rfl⟩) rfl ok (by omega) (by omega) fun v x' f' v0 v1 ok' => ?_))
    obtain ⟨j, rfl⟩ := Int.eq_ofNat_of_zero_le v0
    have hj : j < l.length := by omega
    have hat : ((nI l).map D.int)[j]? = some (.int (l[j] : Int)) := by
      unfold nI
      rw [List.getElem?_map, List.getElem?_map, List.getElem?_eq_getElem hj]
      rfl
    refine ⟨1, (nI l).map .int, j, .int (l[j] : Int), rfl, by omega, rfl, hat, 2, (nI t).map .int, rfl, by rw [List.length_map, nI_len]; omega, (l.eraseIdx j).length, by rw [em, List.length_eraseIdx_of_lt hj]; omega, x', f', l.eraseIdx j, t ++ [l[j]], ok', ?_, rfl, rfl, ?_⟩
    · rw [List.append_assoc]
      refine List.Perm.trans (List.Perm.append_left t ?_) pm
      exact erase_perm (List.getElem?_eq_getElem hj)
    · have e1 : ((nI l).map D.int).eraseIdx j = (nI (l.eraseIdx j)).map .int := by
        unfold nI
        rw [map_erase, map_erase]
      have e2 : (nI t).map D.int ++ [.int (l[j] : Int)] = (nI (t ++ [l[j]])).map .int := by
        rw [nI_app, List.map_append]
        rfl
      show [Res.cell p (jarD x' f'), Res.cell pl (.list (((nI l).map D.int).eraseIdx j)), Res.cell pt (.list ((nI t).map D.int ++ [.int (l[j] : Int)]))] = _
      rw [e1, e2]
  · have le : l = [] := by simpa using hb
    subst le
    rw [List.append_nil] at pm
    refine sj_thaw (i := 3) (p := pt) (d := .list ((nI t).map .int)) (Z1 := [.cell p (jarD x f), .cell pl (.list ((nI []).map .int))]) rfl (List.Perm.refl _) ?_
    refine sj_dropZ (Z1 := [.cell p (jarD x f)]) (Z2 := [.cell pl (.list ((nI []).map .int))]) (List.Perm.refl _) ?_
    exact sj_ret (ej_ev (ev_var rfl) ⟨p, x, f, n, t, rfl, rfl, ok, rfl, pm⟩)
end
end Tk

set_option Elab.async false
set_option linter.all false
set_option maxRecDepth 100000
set_option maxHeartbeats 4000000
/-! E5: how many versions there are. -/
namespace Tk
open PySem PySem.Spec PyProof.Rows L2 Dm
theorem verD_eq (cs : Cs) : verD cs = versD (vrOf cs) := by
  unfold verD versD versK vrOf
  rw [List.map_map]
  rfl
theorem total_int' : ∀ vs : Vr, (vs.map fun p => (p.2.length : Int)).sum = (((vs.map fun p => p.2.length).sum : Nat) : Int)
  | [] => rfl
  | p :: t => by
    rw [List.map_cons, List.sum_cons, List.map_cons, List.sum_cons, Int.natCast_add, total_int' t]
def total (vs : Vr) : Nat := (vs.map fun p => p.2.length).sum
section
variable {ρ : Ro} {K : PySem.W.Frag}
/-- sum([len(versions[one]) for one in versions]) -/
theorem ev_sumLens {i j : Nat} {vs : Vr} (hi : ρ[i]? = some (.im (versD vs))) (hij : i ≠ j) (hn : (vs.map (·.1)).Nodup) (hl : vs.length ≤ 9000) (hj : j < ρ.length) :
    Ev (tCB (rSum K) (tCons (tLockE (tLc (iKeys (tVar i)) (gName j) tYes (tCB (fun xs H Q => ∃ p ys, xs = [.ref p] ∧ (SqL K H p ys ∨ SqT K H p ys) ∧ Q (.int ys.length) H) (tCons (tDGet (tVar i) (tVar j)) tNil)) [j])) tNil)) ρ (.int (total vs : Nat)) := fun B F H σ en Q k => by
  obtain ⟨v, hv, a, kvs, rfl, fa, ha, r⟩ := en.im i _ hi
  have lk : kvs.length = vs.length := by rw [(pk_of r).len, versK_len]
  have hjs : j < σ.length := by rw [en.len]; exact hj
  refine ⟨a, .dK kvs, ha, True.intro, fun od => ?_⟩
  refine ⟨.ref a, hv, a, od, rfl, .inl ⟨kvs, upd_same, fun D hD => ?_⟩⟩
  have Da : D ≠ a := fun z => by
    rw [z, upd_same] at hD
    cases hD
  have hD0 : H D = none := by
    rw [upd_ne Da] at hD
    exact hD
  -- the heap in the loop
  let lens : List Int := vs.map fun p => (p.2.length : Int)
  let HH : Nat → Hp := fun m => upd (upd H a (.frz od (.dK kvs))) D (.lst ((lens.take m).map V.int))
  have hl2 : lens.length = vs.length := List.length_map _
  have old : ∀ m b o, H b = some o → b ≠ a → HH m b = some o := fun m b o h ne => by
    show upd (upd H a _) D _ b = some o
    rw [upd_ne (fun z => by rw [z, hD0] at h; cases h), upd_ne ne]
    exact h
  have atA : ∀ m, HH m a = some (.frz od (.dK kvs)) := fun m => by
    show upd (upd H a _) D _ a = _
    rw [upd_ne (Ne.symm Da), upd_same]
  refine ⟨fun m mm H' => mm = vs.length - m ∧ m ≤ vs.length ∧ H' = HH m, ⟨_, rfl, Nat.zero_le _, rfl⟩, ?_⟩
  rintro m mm H' ⟨rfl, hm, rfl⟩
  by_cases c : m < vs.length
  · refine .inr ⟨⟨atA m, by rw [lk]; exact c⟩, fun H2 => H2 = HH (m + 1), fun H2 e => ⟨vs.length - (m + 1), by omega, rfl, c, e⟩, fun x H2 y => ?_⟩
    obtain ⟨rfl, key, val, hkv, rfl⟩ := y
    refine ⟨wipe_eq (σ2 := (L2.wipe σ [j]).set j (some (kV key))) (by rw [List.length_set, wipe_length]) (fun q hq => by
      have hq : q ≠ j := fun z => hq (by rw [z]; exact .head _)
      rw [List.getElem?_set_ne (Ne.symm hq), wipe_get, if_neg (fun z => hq (List.mem_singleton.mp z.1))]), ?_⟩
    unfold tYes
    dsimp only
    rw [if_pos rfl]
    -- the list of this name
    have hp : vs[m]? = some vs[m] := List.getElem?_eq_getElem c
    generalize hpe : vs[m] = p at hp
    have key_is : key = .inr p.1 ∧ ∃ b, val = .ref b ∧ b ≠ a ∧ H b = some (.lst (p.2.map V.int)) := by
      have g : ∀ (vs : Vr) (kvs : List (Key × V)) (m : Nat), RpK F H (versK vs) kvs → vs[m]? = some p → kvs[m]? = some (key, val) → key = .inr p.1 ∧ Rp F H (.list (p.2.map .int)) val := by
        intro vs
        induction vs with
        | nil => intro kvs m _ h _; simp at h
        | cons q t ih =>
          intro kvs m rr h1 h2
          obtain ⟨v, ws, rfl, rq, rt⟩ := rr
          cases m with
          | zero =>
            cases h1
            cases h2
            exact ⟨rfl, rq⟩
          | succ m => exact ih ws m rt (by simpa using h1) (by simpa using h2)
      obtain ⟨e1, b, ys, e2, fb, hb, ry⟩ := g vs kvs m r hp hkv
      have := ry.ints
      subst this
      exact ⟨e1, b, e2, (fun z => by rw [z, ha] at hb; cases hb), hb⟩
    obtain ⟨rfl, b, rfl, ba, hb⟩ := key_is
    have gv : valV kvs (.inr p.1) = some (.ref b) := by
      rcases (pk_of r).get (k := .inr p.1) with ⟨c1, _⟩ | ⟨d', v', c1, c2, rv⟩
      · rw [versK_some hn (List.mem_of_getElem? hp)] at c1
        cases c1
      · rw [versK_some hn (List.mem_of_getElem? hp)] at c1
        cases c1
        -- the first entry with the key is this one
        have nk : (kvs.map (·.1)).Nodup := by
          have e : ∀ (vs : Vr) (kvs : List (Key × V)), RpK F H (versK vs) kvs → kvs.map (·.1) = vs.map fun p => (.inr p.1 : Key) := by
            intro vs
            induction vs with
            | nil =>
              intro kvs rr
              have rr : kvs = [] := rr
              rw [rr]
              rfl
            | cons q t ih =>
              intro kvs rr
              obtain ⟨v, ws, rfl, _, rt⟩ := rr
              rw [List.map_cons, List.map_cons, ih ws rt]
          rw [e vs kvs r]
          have : (vs.map fun p => (.inr p.1 : Key)) = (vs.map (·.1)).map Sum.inr := by rw [List.map_map]; rfl
          rw [this]
          exact List.Pairwise.map _ (fun x y h e => h (Sum.inr.inj e)) hn
        have one : ∀ (l : List (Key × V)) (m : Nat) (k : Key) (v : V), (l.map (·.1)).Nodup → l[m]? = some (k, v) → valV l k = some v := by
          intro l
          induction l with
          | nil => intro m k v _ h; simp at h
          | cons q t ih =>
            intro m k v nd h
            rw [List.map_cons] at nd
            obtain ⟨n1, n2⟩ := List.nodup_cons.mp nd
            cases m with
            | zero =>
              cases h
              unfold valV
              rw [List.find?_cons, decide_eq_true rfl]
              rfl
            | succ m =>
              have h : t[m]? = some (k, v) := by simpa using h
              have ne : ¬ q.1 = k := fun z => n1 (z ▸ List.mem_map_of_mem (f := fun x : Key × V => x.1) (List.mem_of_getElem? h))
              have := ih m k v n2 h
              unfold valV at this ⊢
              rw [List.find?_cons, decide_eq_false ne]
              exact this
        exact one kvs m _ _ nk hkv
    have si : ((L2.wipe σ [j]).set j (some (kV (.inr p.1))))[i]? = some (some (.ref a)) := by
      rw [List.getElem?_set_ne (Ne.symm hij), wipe_get, if_neg (fun z => hij (List.mem_singleton.mp z.1))]
      exact hv
    have sj : ((L2.wipe σ [j]).set j (some (kV (.inr p.1))))[j]? = some (some (kV (.inr p.1))) := List.getElem?_set_self (by rw [wipe_length]; exact hjs)
    refine ⟨.ref a, si, kV (.inr p.1), sj, a, .ref b, rfl, .inl ⟨kvs, .inr p.1, .inr ⟨od, atA m⟩, rfl, gv.symm⟩, b, p.2.map V.int, rfl, .inl (SqL.of (old m b _ hb ba)), ?_⟩
    refine ⟨(lens.take m).map V.int, upd_same, big_lt (by rw [List.length_map, List.length_take]; omega), ?_⟩
    show upd (upd (upd H a _) D _) D _ = HH (m + 1)
    rw [upd_upd]
    show _ = upd (upd H a _) D _
    congr 2
    have hln : lens[m]? = some ((p.2.length : Nat) : Int) := by
      show (vs.map _)[m]? = _
      rw [List.getElem?_map, hp]
      rfl
    rw [List.take_add_one, hln, List.map_append, List.length_map]
    rfl
  · have e : m = vs.length := by omega
    subst e
    refine .inl ⟨⟨atA _, by rw [lk]; exact Nat.le_refl _⟩, atA _, ?_⟩
    have tk : lens.take vs.length = lens := by rw [List.take_of_length_le (by rw [hl2]; exact Nat.le_refl _)]
    -- unlocked
    have un : upd (HH vs.length) a (.dK kvs) = upd H D (.lst (lens.map V.int)) := by
      funext q
      show upd (upd (upd H a _) D _) a _ q = _
      rw [tk]
      by_cases z : q = a
      · rw [z, upd_same, upd_ne (Ne.symm Da)]
        exact ha.symm
      · rw [upd_ne z]
        by_cases z2 : q = D
        · rw [z2, upd_same, upd_same]
        · rw [upd_ne z2, upd_ne z2, upd_ne z]
    rw [un]
    refine ⟨D, lens, rfl, SqL.of upd_same, ?_⟩
    have tot : lens.sum = (total vs : Nat) := by
      exact total_int' vs
    rw [tot]
    exact k _ F _ (gw_upd en.fh hD0) rfl
end
end Tk

set_option Elab.async false
set_option linter.all false
set_option maxRecDepth 100000
set_option maxHeartbeats 4000000
/-! E6: the doings of one dealing. -/
namespace Tk
open PySem PySem.Spec PyProof.Rows L2 Dm
abbrev Sto := List (Str × Int)
def storeK (st : Sto) : List (Key × D) := st.map fun p => (.inr p.1, .int p.2)
def stGet (st : Sto) (n : Str) : Int := ((st.find? fun p => decide (p.1 = n)).map (·.2)).getD 0
def putS (st : Sto) (n : Str) (v : Int) : Sto := if (st.any fun p => decide (p.1 = n)) = true then st.map fun p => if p.1 = n then (p.1, v) else p else st ++ [(n, v)]
theorem storeK_get (st : Sto) (n : Str) : (getD' (storeK st) (.inr n)).getD (.int 0) = .int (stGet st n) := by
  unfold getD' storeK stGet
  rw [List.find?_map, Option.map_map]
  have e : ((fun kv : Key × D => decide (kv.1 = .inr n)) ∘ fun p : Str × Int => ((.inr p.1, .int p.2) : Key × D)) = fun p => decide (p.1 = n) := by
    funext p
    show decide ((Sum.inr p.1 : Key) = .inr n) = _
    by_cases c : p.1 = n
    · simp [c]
    · rw [decide_eq_false c, decide_eq_false fun z => c (Sum.inr.inj z)]
  rw [e]
  cases st.find? fun p => decide (p.1 = n) <;> rfl
theorem storeK_put (st : Sto) (n : Str) (v : Int) : putD (storeK st) (.inr n) (.int v) = storeK (putS st n v) := by
  unfold putD putS
  have e : ((storeK st).any fun kv => decide (kv.1 = .inr n)) = st.any fun p => decide (p.1 = n) := by
    unfold storeK
    rw [List.any_map]
    congr 1
    funext p
    show decide ((Sum.inr p.1 : Key) = .inr n) = _
    by_cases c : p.1 = n
    · simp [c]
    · rw [decide_eq_false c, decide_eq_false fun z => c (Sum.inr.inj z)]
  rw [e]
  by_cases c : (st.any fun p => decide (p.1 = n)) = true
  · rw [if_pos c, if_pos c]
    unfold storeK
    rw [List.map_map, List.map_map]
    refine List.map_congr_left fun p _ => ?_
    show (if (Sum.inr p.1 : Key) = .inr n then ((.inr p.1, .int v) : Key × D) else (.inr p.1, .int p.2)) = (.inr (if p.1 = n then (p.1, v) else p).1, .int (if p.1 = n then (p.1, v) else p).2)
    by_cases q : p.1 = n
    · rw [if_pos (by rw [q]), if_pos q]
    · rw [if_neg (fun z => q (Sum.inr.inj z)), if_neg q]
  · rw [if_neg c, if_neg c]
    unfold storeK
    rw [List.map_append]
    rfl
theorem storeK_len (st : Sto) : (storeK st).length = st.length := List.length_map _
theorem putS_len (st : Sto) (n : Str) (v : Int) : (putS st n v).length ≤ st.length + 1 := by
  unfold putS
  by_cases c : (st.any fun p => decide (p.1 = n)) = true
  · rw [if_pos c, List.length_map]
    exact Nat.le_succ _
  · rw [if_neg c, List.length_append]
    exact Nat.le_refl _
theorem storeK_inj {a b : Sto} (h : storeK a = storeK b) : a = b := map_inj' (fun x y e => by
  injection e with e1 e2
  injection e2 with e2
  exact Prod.ext (Sum.inr.inj e1) e2) h
/-- the worths that are written: the k-th kind at count c -/
def gW : Nat → Nat → Int
  | 0, c => c
  | 1, c => 0 - (c : Int)
  | 2, c => (c : Int) * 9999991
  | 3, c => 10 ^ 9 + 1 - (c : Int)
  | _, c => (c : Int) - 1 - 10 ^ 9
/-- doings, each done on the store and the versions as they stand -/
inductive DoRun (N : List Str) (st : Sto) (vs : Vr) : List (Dd Str) → Sto → Vr → Prop
  | nil : DoRun N st vs [] st vs
  | read {l : List (Dd Str)} {st' : Sto} {vs' : Vr} {n : Str} : DoRun N st vs l st' vs' → n ∈ N → DoRun N st vs (l ++ [⟨false, n, stGet st' n⟩]) st' vs'
  | write {l : List (Dd Str)} {st' : Sto} {vs' : Vr} {n : Str} {k : Nat} : DoRun N st vs l st' vs' → n ∈ N → k < 5 → DoRun N st vs (l ++ [⟨true, n, gW k (1 + total vs')⟩]) (putS st' n (gW k (1 + total vs'))) (appV vs' n (gW k (1 + total vs')))
structure GOk (st : Sto) (vs : Vr) : Prop where
  nd : (vs.map (·.1)).Nodup
  vl : vs.length ≤ total vs
  sl : st.length ≤ total vs
theorem appV_names (vs : Vr) (n : Str) (w : Int) : (appV vs n w).map (·.1) = if n ∈ vs.map (·.1) then vs.map (·.1) else vs.map (·.1) ++ [n] := by
  have e : (vs.any fun p => decide (p.1 = n)) = true ↔ n ∈ vs.map (·.1) := by
    rw [List.any_eq_true]
    constructor
    · rintro ⟨p, hp, h⟩
      exact List.mem_map.mpr ⟨p, hp, of_decide_eq_true h⟩
    · intro h
      obtain ⟨p, hp, h⟩ := List.mem_map.mp h
      exact ⟨p, hp, decide_eq_true h⟩
  unfold appV
  by_cases c : n ∈ vs.map (·.1)
  · rw [if_pos (e.mpr c), if_pos c, List.map_map]
    refine List.map_congr_left fun p _ => ?_
    show (if p.1 = n then (p.1, p.2 ++ [w]) else p).1 = p.1
    by_cases q : p.1 = n
    · rw [if_pos q]
    · rw [if_neg q]
  · rw [if_neg (fun z => c (e.mp z)), if_neg c, List.map_append]
    rfl
theorem appV_nd {vs : Vr} (h : (vs.map (·.1)).Nodup) (n : Str) (w : Int) : ((appV vs n w).map (·.1)).Nodup := by
  rw [appV_names]
  by_cases c : n ∈ vs.map (·.1)
  · rw [if_pos c]
    exact h
  · rw [if_neg c]
    refine List.nodup_append.mpr ⟨h, List.pairwise_singleton _ _, fun a ha b hb e => c ?_⟩
    rw [List.mem_singleton.mp hb] at e
    exact e ▸ ha
theorem total_app : ∀ {vs : Vr}, (vs.map (·.1)).Nodup → ∀ (n : Str) (w : Int), total (appV vs n w) = total vs + 1
  | vs, nd, n, w => by
    have one : ∀ vs : Vr, (vs.map (·.1)).Nodup → n ∈ vs.map (·.1) → ((vs.map fun p => if p.1 = n then (p.1, p.2 ++ [w]) else p).map fun p => p.2.length).sum = (vs.map fun p => p.2.length).sum + 1 := by
      intro vs
      induction vs with
      | nil => intro _ h; cases h
      | cons q t ih =>
        intro nd h
        rw [List.map_cons] at nd h
        obtain ⟨n1, n2⟩ := List.nodup_cons.mp nd
        rw [List.map_cons, List.map_cons, List.sum_cons, List.map_cons, List.sum_cons]
        by_cases c : q.1 = n
        · rw [if_pos c]
          have no : ∀ p ∈ t, ¬ p.1 = n := fun p hp z => n1 (by rw [c, ← z]; exact List.mem_map_of_mem hp)
          have same : (t.map fun p => if p.1 = n then (p.1, p.2 ++ [w]) else p) = t := by
            conv => rhs; rw [← List.map_id t]
            exact List.map_congr_left fun p hp => if_neg (no p hp)
          rw [same]
          show (q.2 ++ [w]).length + _ = _
          rw [List.length_append, List.length_singleton]
          omega
        · rw [if_neg c]
          have hm : n ∈ t.map (·.1) := by
            rcases List.mem_cons.mp h with z | z
            · exact absurd z.symm c
            · exact z
          rw [ih n2 hm]
          omega
    unfold total appV
    by_cases c : (vs.any fun p => decide (p.1 = n)) = true
    · rw [if_pos c]
      obtain ⟨p, hp, e⟩ := List.any_eq_true.mp c
      exact one vs nd (List.mem_map.mpr ⟨p, hp, of_decide_eq_true e⟩)
    · rw [if_neg c, List.map_append, List.sum_append]
      rfl
theorem appV_len (vs : Vr) (n : Str) (w : Int) : (appV vs n w).length ≤ vs.length + 1 := by
  unfold appV
  by_cases c : (vs.any fun p => decide (p.1 = n)) = true
  · rw [if_pos c, List.length_map]
    exact Nat.le_succ _
  · rw [if_neg c, List.length_append]
    exact Nat.le_refl _
theorem GOk.write {st : Sto} {vs : Vr} (h : GOk st vs) (n : Str) (w : Int) : GOk (putS st n w) (appV vs n w) := by
  have t := total_app h.nd n w
  have a := appV_len vs n w
  have b := putS_len st n w
  have c := h.vl
  have d := h.sl
  exact ⟨appV_nd h.nd n w, by omega, by omega⟩
theorem DoRun.ok {N : List Str} {st : Sto} {vs : Vr} {l : List (Dd Str)} {st' : Sto} {vs' : Vr} (h : DoRun N st vs l st' vs') (g : GOk st vs) : GOk st' vs' ∧ total vs' = total vs + (wb l).length ∧ (wb l).length ≤ l.length := by
  induction h with
  | nil => exact ⟨g, rfl, Nat.le_refl _⟩
  | read _ _ ih =>
    obtain ⟨a, b, c⟩ := ih
    refine ⟨a, ?_, ?_⟩
    · rw [wb_append, List.length_append]
      exact b
    · rw [wb_append, List.length_append, List.length_append]
      exact Nat.le_succ_of_le c
  | write _ _ _ ih =>
    obtain ⟨a, b, c⟩ := ih
    refine ⟨a.write _ _, ?_, ?_⟩
    · rw [total_app a.nd, b, wb_append, List.length_append]
      rfl
    · rw [wb_append, List.length_append, List.length_append]
      exact Nat.succ_le_succ c
theorem len_le_total {vs : Vr} {p : Str × List Int} (h : p ∈ vs) : p.2.length ≤ total vs := by
  unfold total
  induction vs with
  | nil => cases h
  | cons q t ih =>
    rw [List.map_cons, List.sum_cons]
    rcases List.mem_cons.mp h with z | z
    · rw [z]
      exact Nat.le_add_right _ _
    · exact Nat.le_trans (ih z) (Nat.le_add_left _ _)
end Tk

set_option Elab.async false
set_option linter.all false
set_option maxRecDepth 100000
set_option maxHeartbeats 4000000
/-! E7: the doings of one dealing, the walk. -/
namespace Tk
open PySem PySem.Spec PyProof.Rows L2 Dm
section
variable {P : Program} {w : World} {K : PySem.W.Frag} {mg : Str → Option Value} {base : Heap}
theorem call_len_seqK {X : Cx} (K : PySem.W.Frag) (h : X.K = K := by rfl) : CallR X (.builtin "len") (fun xs H Q => ∃ p ys, xs = [.ref p] ∧ (SqL K H p ys ∨ SqT K H p ys) ∧ Q (.int ys.length) H) := h ▸ call_len_seq
/-- tuple(a list) -/
theorem ev_tupleL {ρ : Ro} {te : TE} {ds : List D} (h : Ev te ρ (.list ds)) : Ev (tCB (fun xs H Q => ∃ p ys, xs = [.ref p] ∧ ((SqL K H p ys ∧ ∀ l, H l = none → Q (.ref l) (upd H l (.tup ys))) ∨ (SqT K H p ys ∧ Q (.ref p) H))) (tCons te tNil)) ρ (.tuple ds) := fun B F H σ en Q k =>
  h B F H σ en _ fun v F1 H1 g1 r1 => by
    obtain ⟨a, xs, rfl, fa, ha, r⟩ := r1
    exact ⟨a, xs, rfl, .inl ⟨SqL.of ha, fun l hl => k _ (addF F1 l) _ (g1.trans (Gw.new g1.h hl)) (rp_newT g1.h hl r)⟩⟩
theorem gW_at {c : Nat} {k : Nat} (hk : k < 5) : atI [D.int (c : Int), .int (0 - (c : Int)), .int ((c : Int) * 9999991), .int (10 ^ 9 + 1 - (c : Int)), .int ((c : Int) - 1 - 10 ^ 9)] ((k : Nat) : Int) = some (.int (gW k c)) := by
  match k, hk with
  | 0, _ => exact atI_nat (j := 0) rfl
  | 1, _ => exact atI_nat (j := 1) rfl
  | 2, _ => exact atI_nat (j := 2) rfl
  | 3, _ => exact atI_nat (j := 3) rfl
  | 4, _ => exact atI_nat (j := 4) rfl
theorem name_at {n1 n2 n3 : Str} {v : Int} (h0 : 0 ≤ v) (h1 : v < 3) : ∃ n, n ∈ [n1, n2, n3] ∧ atI [D.str n1, .str n2, .str n3] v = some (.str n) := by
  obtain ⟨j, rfl⟩ := Int.eq_ofNat_of_zero_le h0
  have hj : j < 3 := by omega
  match j, hj with
  | 0, _ => exact ⟨n1, .head _, atI_nat (j := 0) rfl⟩
  | 1, _ => exact ⟨n2, .tail _ (.head _), atI_nat (j := 1) rfl⟩
  | 2, _ => exact ⟨n3, .tail _ (.tail _ (.head _)), atI_nat (j := 2) rfl⟩
abbrev s__law_doings : Stmt := topS 39
theorem sc__law_doings : FnScope ["jar", "names", "store", "versions", "doings", "k", "name", "count", "worth", "one"] ["jar", "names", "store", "versions"] (defScope s__law_doings) := ⟨rfl, rfl, rfl, by decide +kernel, rfl, by decide +kernel, by decide +kernel⟩
def pDo (es : List A) (Z : Zs) : Prop := ∃ (pj ps pv : Addr) (x f : Int) (n1 n2 n3 : Str) (st : Sto) (cs : Cs), es = [.p pj, .d (.list [.str n1, .str n2, .str n3]), .p ps, .p pv] ∧ Z = [.cell pj (jarD x f), .cell ps (.dict (storeK st)), .vers pv cs] ∧ JarOk x f ∧ GOk st (vrOf cs) ∧ total (vrOf cs) ≤ 100
def rDo (es : List A) (Z : Zs) (r : A) (Z' : Zs) : Prop := ∃ (pj ps pv : Addr) (x f x' f' : Int) (n1 n2 n3 : Str) (st st' : Sto) (cs cs' : Cs) (ds : List (Dd Str)), es = [.p pj, .d (.list [.str n1, .str n2, .str n3]), .p ps, .p pv] ∧ Z = [.cell pj (jarD x f), .cell ps (.dict (storeK st)), .vers pv cs] ∧
  Z' = [.cell pj (jarD x' f'), .cell ps (.dict (storeK st')), .vers pv cs'] ∧ JarOk x' f' ∧ r = .d (.tuple (ds.map deedD)) ∧ DoRun [n1, n2, n3] st (vrOf cs) ds st' (vrOf cs') ∧ ds.length ≤ 4 ∧ ∀ a ∈ cs.map (fun c : Str × Addr × List Int => c.2.1), a ∈ cs'.map (fun c : Str × Addr × List Int => c.2.1)
theorem cal__law_doings (F : DefAt K mg "_law_doings" s__law_doings ["jar", "names", "store", "versions"]) (T : Bt mg) (C__law_take : Cal P w K mg base "_law_take" ["jar", "many"] 1 (CtJ pTk rTk)) : Cal P w K mg base "_law_doings" ["jar", "names", "store", "versions"] 2 (CtJ pDo rDo) := by
  refine cal_J F sc__law_doings (fun es Z ⟨_, _, _, _, _, _, _, _, _, _, e, _⟩ => by rw [e]; rfl) (fun es Z r Z' _ h a ha => ?_) (fun f cdv A outer s H E hr => ?_)
  · obtain ⟨pj, ps, pv, x, f, x', f', n1, n2, n3, st, st', cs, cs', ds, e, ez, ez', _, _, _, _, sub⟩ := h
    rw [ez] at ha
    rw [ez']
    rcases List.mem_cons.mp ha with z | z
    · rw [z]
      exact .head _
    · rcases List.mem_cons.mp z with z | z
      · rw [z]
        exact .tail _ (.head _)
      · rcases List.mem_cons.mp z with z | z
        · rw [z]
          exact .tail _ (.tail _ (.head _))
        · have z : a ∈ cs.map (fun c : Str × Addr × List Int => c.2.1) ++ [] := z
          rw [List.append_nil] at z
          refine .tail _ (.tail _ (.tail _ ?_))
          show a ∈ cs'.map _ ++ []
          rw [List.append_nil]
          exact sub a z
  have hu := hu_of hr
  refine ⟨_, (pss_cons (ps_set (i := 4) sc__law_doings.nd rfl (.inl rfl) (pe_lst pa_nil))
      (pss_cons (ps_for PassesOwn.never rfl (pi_range1 rfl T.range_ (pa_cons (pe_callC _ C__law_take hr (pa_cons (pv 0) (pa_cons pe_int pa_nil))) pa_nil)) (pg_name (i := 5) sc__law_doings.nd rfl (.inl rfl) (.inl rfl)) (pss_cons (ps_set (i := 6) sc__law_doings.nd rfl (.inl rfl) (pe_ix ix_list (pv 1) (pe_callC _ C__law_take hr (pa_cons (pv 0) (pa_cons pe_int pa_nil))) (fun _ _ => rfl)))
      (pss_one (ps_if (pt_cmpR op_eq (pe_callC _ C__law_take hr (pa_cons (pv 0) (pa_cons pe_int pa_nil))) pe_int (nomark _)) (pss_one (ps_expr (pe_bm PySem.F.plainAttrs_list PySem.F.slot_list_append PySem.F.type_list_append mt_append (pv 4) (pa_cons (pe_tup (pa_cons pe_str (pa_cons (pv 6) (pa_cons (pe_dget2 hu (pv 2) (pv 6) pe_int ⟨rfl, rfl, rfl, rfl⟩) pa_nil)))) pa_nil)))) (pss_cons (ps_set (i := 7) sc__law_doings.nd rfl (.inl rfl) (pe_op op_add pe_int (pe_callB (cr_sum rfl) (by rfl) T.sum_ (by decide +kernel) (pa_cons (pe_lock (pe_lc (own := [("one", 9)]) (g := gName 9) (by rfl) sc__law_doings.nd (pi_keys (pv 3)) (blkOk_by (own := [("one", 9)]) (N := ["jar", "names", "store", "versions", "doings", "k", "name", "count", "worth", "one"]) (sc := defScope s__law_doings) (by decide +kernel)) (fun _ _ _ _ _ => (pg_name (i := 9) sc__law_doings.nd rfl (.inl rfl) (.inr rfl))) (fun _ _ _ _ _ => pts_nil) (fun _ _ _ _ _ => (pe_callB (call_len_seqK K) (by rfl) T.len_ PySem.boot_len (pa_cons (pe_dget hu (pv 3) (pv 9) (fun _ _ => rfl)) pa_nil))))) pa_nil))))
      (pss_cons (ps_set (i := 8) sc__law_doings.nd rfl (.inl rfl) (pe_ix ix_list (pe_lst (pa_cons (pv 7) (pa_cons (pe_op op_sub pe_int (pv 7)) (pa_cons (pe_op op_mul (pv 7) pe_int) (pa_cons (pe_op op_sub (pe_op op_add (pe_op op_pow pe_int pe_int) pe_int) (pv 7)) (pa_cons (pe_op op_sub (pe_op op_sub (pv 7) pe_int) (pe_op op_pow pe_int pe_int)) pa_nil)))))) (pe_callC _ C__law_take hr (pa_cons (pv 0) (pa_cons pe_int pa_nil))) (fun _ _ => rfl)))
      (pss_cons (ps_expr (pe_bm PySem.F.plainAttrs_list PySem.F.slot_list_append PySem.F.type_list_append mt_append (pv 4) (pa_cons (pe_tup (pa_cons pe_str (pa_cons (pv 6) (pa_cons (pv 8) pa_nil)))) pa_nil)))
      (pss_cons (ps_dput hu (pv 2) (pv 6) (pv 8) rfl)
      (pss_one (ps_expr (pe_bm PySem.F.plainAttrs_list PySem.F.slot_list_append PySem.F.type_list_append mt_append (pe_dsetd (pv 3) (pv 6) (pe_lst pa_nil) ⟨rfl, rfl, rfl, rfl⟩) (pa_cons (pv 8) pa_nil))))))))))))
      (pss_one (ps_ret (pe_callTy call_tuple_of (by rfl) T.tuple_ (by decide +kernel) (pa_cons (pv 4) pa_nil)))))), fun es Z ⟨pj, ps, pv, x0, f0, n1, n2, n3, st0, cs0, e, ez, ok0, g0, t0⟩ => ?_⟩
  subst e ez
  refine sj_seq (sj_asgN (en_lst ea_nil (by simp)) fun pd => ?_)
  refine sj_seq (sj_for [5, 6, 7, 8] (P := fun l Z' => ∃ (n : Nat) (x f : Int), l = upto n ∧ n ≤ 4 ∧ JarOk x f ∧ Z' = [.cell pj (jarD x f), .cell ps (.dict (storeK st0)), .vers pv cs0, .cell pd (.list [])]) (wj_range (ej_take (k := 0) (m := 5) rfl (ej_ev ev_int ⟨rfl, rfl⟩) rfl ok0 (by decide) (by decide) fun v x' f' v0 v1 ok' => by
    obtain ⟨n, rfl⟩ := Int.eq_ofNat_of_zero_le v0
    exact ⟨n, rfl, by omega, n, x', f', rfl, by omega, ok', rfl⟩)) fun l Z1 ⟨n, x1, f1, el, hn, ok1, ez⟩ => ?_)
  subst el ez
  rw [upto_len]
  refine ⟨fun i ρ Z => ∃ (x f : Int) (st : Sto) (cs : Cs) (ds : List (Dd Str)), JarOk x f ∧ DoRun [n1, n2, n3] st0 (vrOf cs0) ds st (vrOf cs) ∧ ds.length = i ∧ (∀ a ∈ cs0.map (fun c : Str × Addr × List Int => c.2.1), a ∈ cs.map (fun c : Str × Addr × List Int => c.2.1)) ∧
    ρ = [.ptr pj, .im (.list [.str n1, .str n2, .str n3]), .ptr ps, .ptr pv, .ptr pd, .no, .no, .no, .no, .no] ∧ Z = [.cell pj (jarD x f), .cell ps (.dict (storeK st)), .vers pv cs, .cell pd (.list (ds.map deedD))],
    ⟨x1, f1, st0, cs0, [], ok1, .nil, rfl, fun _ h => h, rfl, rfl⟩, fun i d ρ Z hd ⟨x, f, st, cs, ds, ok, run, len, sub, er, ez⟩ => ⟨_, tj_name, ?_⟩, fun ρ Z ⟨x, f, st, cs, ds, ok, run, len, sub, er, ez⟩ => ?_⟩
  · subst er ez
    have hi : i < n := by
      have := (List.getElem?_eq_some_iff.mp hd).1
      rwa [upto_len] at this
    rw [upto_get hi] at hd
    cases hd
    obtain ⟨g, tot, wl⟩ := run.ok g0
    have t4 : total (vrOf cs) ≤ 104 := by omega
    have gv := g.vl
    have gs := g.sl
    have lv : (vrOf cs).length = cs.length := List.length_map _
    -- the name
    refine sj_seq (sj_asgM (fun d Z' => ∃ (n : Str) (x f : Int), d = .str n ∧ n ∈ [n1, n2, n3] ∧ JarOk x f ∧ Z' = [.cell pj (jarD x f), .cell ps (.dict (storeK st)), .vers pv cs, .cell pd (.list (ds.map deedD))])
      (ej_op (Pa := fun d Z' => d = .list [.str n1, .str n2, .str n3] ∧ Z' = [.cell pj (jarD x f), .cell ps (.dict (storeK st)), .vers pv cs, .cell pd (.list (ds.map deedD))]) (ej_ev (ev_var rfl) ⟨rfl, rfl⟩) fun d Z1 ⟨e1, e2⟩ => by
        subst e1 e2
        exact ej_take (k := 0) (m := 3) rfl (ej_ev ev_int ⟨rfl, rfl⟩) rfl ok (by decide) (by decide) fun v x' f' v0 v1 ok' => by
          obtain ⟨n, hn, h⟩ := name_at (n1 := n1) (n2 := n2) (n3 := n3) v0 v1
          exact ⟨.str n, rv_ixL h, n, x', f', rfl, hn, ok', rfl⟩) fun d Z' ⟨nm, x2, f2, e1, hnm, ok2, e2⟩ => ?_)
    subst e1 e2
    refine sj_if (P := fun b Z' => ∃ (x f : Int), JarOk x f ∧ Z' = [.cell pj (jarD x f), .cell ps (.dict (storeK st)), .vers pv cs, .cell pd (.list (ds.map deedD))])
      (et_valJ (ej_op (Pa := fun d Z' => ∃ (v x f : Int), d = .int v ∧ JarOk x f ∧ Z' = [.cell pj (jarD x f), .cell ps (.dict (storeK st)), .vers pv cs, .cell pd (.list (ds.map deedD))]) (ej_take (k := 0) (m := 2) rfl (ej_ev ev_int ⟨rfl, rfl⟩) rfl ok2 (by decide) (by decide) fun v x' f' v0 v1 ok' => ⟨v, x', f', rfl, ok', rfl⟩) fun d Z1 ⟨v, x, f, e1, ok, e2⟩ => by
        subst e1 e2
        exact ej_ev ev_int ⟨.bool (decide (v = 0)), rv_eqI, _, rfl, x, f, ok, rfl⟩)) (fun Z1 ⟨x3, f3, ok3, e⟩ => ?_) (fun Z1 ⟨x3, f3, ok3, e⟩ => ?_)
    · -- a read
      subst e
      refine sj_append (p := pd) (k := 3) (ds := ds.map deedD) rfl rfl (ej_tup (ea_d (Pa := fun d Z' => d = .str "read" ∧ Z' = _) (ej_ev ev_str ⟨rfl, rfl⟩) fun d Z1 ⟨e1, e2⟩ => ?_))
      subst e1 e2
      refine ea_d (Pa := fun d Z' => d = .str nm ∧ Z' = _) (ej_ev (ev_var rfl) ⟨rfl, rfl⟩) fun d Z1 ⟨e1, e2⟩ => ?_
      subst e1 e2
      refine ea_d (Pa := fun d Z' => d = .int (stGet st nm) ∧ Z' = _) (ej_frz (ρ' := [.ptr pj, .im (.list [.str n1, .str n2, .str n3]), .im (.dict (storeK st)), .ptr pv, .ptr pd, .im (.int (i : Int)), .im (.str nm), .no, .no, .no]) ⟨.same _, .same _, .cell (.tail _ (.head _)), .same _, .same _, .same _, .same _, .same _, .same _, .same _, True.intro⟩ ((ev_dget2S (kds := storeK st) (ev_var rfl) (ev_var rfl) ev_int).cast (storeK_get st nm)) rfl ⟨rfl, rfl⟩) fun d Z1 ⟨e1, e2⟩ => ?_
      subst e1 e2
      refine ea_nilJ ⟨[.str "read", .str nm, .int (stGet st nm)], rfl, by simp, 3, ds.map deedD, rfl, by rw [List.length_map]; omega, ?_⟩
      exact ⟨x3, f3, st, cs, ds ++ [⟨false, nm, stGet st nm⟩], ok3, .read run hnm, by rw [List.length_append, len]; rfl, sub, rfl, by rw [List.map_append]; rfl⟩
    · -- a write
      subst e
      have fz : ∀ {e6 : Ent}, FrzL [.cell pj (jarD x3 f3), .cell ps (.dict (storeK st)), .vers pv cs, .cell pd (.list (ds.map deedD))] [.ptr pj, .im (.list [.str n1, .str n2, .str n3]), .ptr ps, .ptr pv, .ptr pd, .im (.int (i : Int)), .im (.str nm), e6, .no, .no] [.ptr pj, .im (.list [.str n1, .str n2, .str n3]), .ptr ps, .im (verD cs), .ptr pd, .im (.int (i : Int)), .im (.str nm), e6, .no, .no] :=
        ⟨.same _, .same _, .same _, .vers (.tail _ (.tail _ (.head _))), .same _, .same _, .same _, .same _, .same _, .same _, True.intro⟩
      have cnt : (1 : Int) + ((total (vrOf cs) : Nat) : Int) = ((1 + total (vrOf cs) : Nat) : Int) := by omega
      refine sj_seq (sj_asg (ej_frz (d := .int ((1 + total (vrOf cs) : Nat) : Int)) fz (cnt ▸ ev_op ev_int (ev_sumLens (vs := vrOf cs) (by rw [← verD_eq]; rfl) (by decide) g.nd (by omega) (by simp)) rv_add) rfl ?_))
      generalize hc : 1 + total (vrOf cs) = c
      have hc9 : c ≤ 105 := by omega
      have pw : ∀ {ρ : Ro}, Ev (tOp (rI CPow fun i j => .int (i ^ j.toNat)) (tC (.int 10)) (tC (.int 9))) ρ (.int (10 ^ 9)) := ev_op ev_int ev_int (rv_I ⟨by decide, by decide, by decide⟩ fun _ _ => rfl)
      refine sj_seq (sj_asgM (fun d Z' => ∃ (k : Nat) (x f : Int), d = .int (gW k c) ∧ k < 5 ∧ JarOk x f ∧ Z' = [.cell pj (jarD x f), .cell ps (.dict (storeK st)), .vers pv cs, .cell pd (.list (ds.map deedD))])
        (ej_op (Pa := fun d Z' => d = .list [.int (c : Int), .int (0 - (c : Int)), .int ((c : Int) * 9999991), .int (10 ^ 9 + 1 - (c : Int)), .int ((c : Int) - 1 - 10 ^ 9)] ∧ Z' = [.cell pj (jarD x3 f3), .cell ps (.dict (storeK st)), .vers pv cs, .cell pd (.list (ds.map deedD))])
          (ej_ev (EvN.ev (en_lst (ea_cons (ev_var rfl) (ea_cons (ev_op ev_int (ev_var rfl) rv_sub) (ea_cons (ev_op (ev_var rfl) ev_int (rv_I (C := CMul) (f := .int ((c : Int) * 9999991)) (.inl ⟨by omega, by omega⟩) fun _ _ => rfl)) (ea_cons (ev_op (ev_op pw ev_int rv_add) (ev_var rfl) rv_sub) (ea_cons (ev_op (ev_op (ev_var rfl) ev_int rv_sub) pw rv_sub) ea_nil))))) (by simp))) ⟨rfl, rfl⟩) fun d Z1 ⟨e1, e2⟩ => by
          subst e1 e2
          exact ej_take (k := 0) (m := 5) rfl (ej_ev ev_int ⟨rfl, rfl⟩) rfl ok3 (by decide) (by decide) fun v x' f' v0 v1 ok' => by
            obtain ⟨k, rfl⟩ := Int.eq_ofNat_of_zero_le v0
            exact ⟨.int (gW k c), rv_ixL (gW_at (by omega)), k, x', f', rfl, by omega, ok', rfl⟩) fun d Z' ⟨k, x4, f4, e1, hk, ok4, e2⟩ => ?_)
      subst e1 e2
      refine sj_seq (sj_append (p := pd) (k := 3) (ds := ds.map deedD) rfl rfl (ej_ev (d := .tuple [.str "write", .str nm, .int (gW k c)]) (ev_tup (ea_cons ev_str (ea_cons (ev_var rfl) (ea_cons (ev_var rfl) ea_nil))) (by simp)) ⟨3, ds.map deedD, rfl, by rw [List.length_map]; omega, ?_⟩))
      refine sj_seq (sj_dput (p := ps) (kds := []) (key := .inr nm) rfl (ej_ev (d := .int (gW k c)) (ev_var rfl) (ej_ev (d := .str nm) (ev_var rfl) ⟨1, storeK st, .inr nm, rfl, rfl, by rw [storeK_len]; omega, ?_⟩)))
      refine sj_verApp (p := pv) (k := 2) (cs := cs) (n := nm) (w := gW k c) rfl rfl (ev_var rfl) (ev_var rfl) (by omega) (by
        have := g.nd
        unfold vrOf at this
        rw [List.map_map] at this
        exact this) (fun c' hc' => ?_) fun cs' hcs sub' => ?_
      · have := len_le_total (vs := vrOf cs) (List.mem_map_of_mem (f := fun c : Str × Addr × List Int => (c.1, c.2.2)) hc')
        have : c'.2.2.length ≤ total (vrOf cs) := this
        omega
      · refine ⟨x4, f4, putS st nm (gW k c), cs', ds ++ [⟨true, nm, gW k c⟩], ok4, ?_, by rw [List.length_append, len]; rfl, fun a ha => sub' a (sub a ha), rfl, ?_⟩
        · rw [hcs, ← hc]
          exact .write run hnm hk
        · rw [List.map_append, storeK_put]
          rfl
  · subst er ez
    refine sj_thaw (i := 4) (p := pd) (d := .list (ds.map deedD)) (Z1 := [.cell pj (jarD x f), .cell ps (.dict (storeK st)), .vers pv cs]) rfl (List.Perm.refl _) ?_
    exact sj_ret (ej_ev (ev_tupleL (ev_var rfl)) ⟨pj, ps, pv, x0, f0, x, f, n1, n2, n3, st0, st, cs0, cs, ds, rfl, rfl, rfl, ok, rfl, run, by omega, sub⟩)
end
end Tk

set_option Elab.async false
set_option linter.all false
set_option maxRecDepth 100000
set_option maxHeartbeats 4000000
/-! E8: what is dealt. -/
namespace Tk
open PySem PySem.Spec PyProof.Rows L2 Dm
def bgn (a : Nat) (u tm : Int) : Int := (if 10 * (a : Int) - u > 0 then 10 * (a : Int) - u else 0) * tm
def ndn (a : Nat) (v tm : Int) : Int := (10 * (a : Int) + 1 + v) * tm
/-- what is dealt, in the order of the turns -/
inductive Gen (N : List Str) (tm : Int) : List (Dl Str) → Sto → Vr → Prop
  | nil : Gen N tm [] [] []
  | step {l : List (Dl Str)} {st st' : Sto} {vs vs' : Vr} {ds : List (Dd Str)} {u v : Int} : Gen N tm l st vs → DoRun N st vs ds st' vs' → ds.length ≤ 4 → 0 ≤ u → u < 25 → 0 ≤ v → v < 25 → Gen N tm (l ++ [⟨bgn l.length u tm, ndn l.length v tm, ds⟩]) st' vs'
theorem Gen.ok {N : List Str} {tm : Int} {l : List (Dl Str)} {st : Sto} {vs : Vr} (h : Gen N tm l st vs) : GOk st vs ∧ total vs ≤ 4 * l.length := by
  induction h with
  | nil => exact ⟨⟨List.nodup_nil, Nat.zero_le _, Nat.zero_le _⟩, Nat.zero_le _⟩
  | step _ run hl _ _ _ _ ih =>
    obtain ⟨g, t⟩ := ih
    obtain ⟨g', t', w⟩ := run.ok g
    refine ⟨g', ?_⟩
    rw [List.length_append, List.length_singleton]
    omega
def Tms : List Int := [1, 1, 7, 10 ^ 9 + 7, 10 ^ 50]
theorem tms_big {tm : Int} (h : tm ∈ Tms) : 1 ≤ tm ∧ tm.natAbs < 2 ^ 200 := by
  rcases List.mem_cons.mp h with z | h
  · rw [z]; decide
  rcases List.mem_cons.mp h with z | h
  · rw [z]; decide
  rcases List.mem_cons.mp h with z | h
  · rw [z]; decide
  rcases List.mem_cons.mp h with z | h
  · rw [z]; decide
  rcases List.mem_cons.mp h with z | h
  · rw [z]; decide
  cases h
theorem tms_at {v : Int} (h0 : 0 ≤ v) (h1 : v < 5) : ∃ tm, tm ∈ Tms ∧ atI (Tms.map D.int) v = some (.int tm) := by
  obtain ⟨j, rfl⟩ := Int.eq_ofNat_of_zero_le h0
  have hj : j < Tms.length := by
    show j < 5
    omega
  exact ⟨Tms[j], List.getElem_mem hj, atI_nat (by rw [List.getElem?_map, List.getElem?_eq_getElem hj]; rfl)⟩
theorem mulW_ok {i j : Int} (hi : i.natAbs < 2 ^ 64) (hj : j.natAbs < 2 ^ 200) : CMulW i j := wide_mul hi hj (by decide) (by decide) (by decide)
/-- by number -/
def smK (t : List Nat) (l : List (Dl Str)) : List (Key × D) := (t.zip l).map fun p => (.inl (p.1 : Int), dealD p.2)
def dl0 : Dl Str := ⟨0, 0, []⟩
def spread (t : List Nat) (l : List (Dl Str)) : List (Dl Str) := (List.range t.length).map fun k => (l[t.idxOf k]?).getD dl0
theorem zip_snoc {α β : Type} : ∀ {t : List α} {l : List β} {x : α} {d : β}, t[l.length]? = some x → t.zip (l ++ [d]) = t.zip l ++ [(x, d)]
  | [], l, x, d, h => by simp at h
  | y :: t, [], x, d, h => by
    cases h
    simp
  | y :: t, z :: l, x, d, h => by
    have h : t[l.length]? = some x := by simpa using h
    show (y, z) :: t.zip (l ++ [d]) = (y, z) :: (t.zip l ++ [(x, d)])
    rw [zip_snoc h]
theorem smK_put {t : List Nat} {l : List (Dl Str)} {x : Nat} {d : Dl Str} (nd : t.Nodup) (h : t[l.length]? = some x) : putD (smK t l) (.inl (x : Int)) (dealD d) = smK t (l ++ [d]) := by
  have no : ¬ ((smK t l).any fun kv => decide (kv.1 = .inl (x : Int))) = true := fun c => by
    obtain ⟨kv, hm, e⟩ := List.any_eq_true.mp c
    obtain ⟨p, hp, rfl⟩ := List.mem_map.mp hm
    have e : (Sum.inl (p.1 : Int) : Key) = .inl (x : Int) := of_decide_eq_true e
    have e : (p.1 : Int) = x := Sum.inl.inj e
    have e : p.1 = x := by omega
    obtain ⟨i, hi, ei⟩ := List.getElem_of_mem hp
    have hi2 : i < t.length ∧ i < l.length := by
      rw [List.length_zip] at hi
      omega
    rw [List.getElem_zip] at ei
    have hx : t[i]? = some x := by rw [List.getElem?_eq_getElem hi2.1, ← e, ← ei]
    have := (List.getElem?_inj hi2.1 nd).mp (hx.trans h.symm)
    omega
  unfold putD
  rw [if_neg no]
  unfold smK
  rw [zip_snoc h, List.map_append]
  rfl
theorem idxOf_cons' {y k : Nat} {t : List Nat} (c : y ≠ k) : (y :: t).idxOf k = t.idxOf k + 1 := by
  rw [List.idxOf_cons]
  have : (y == k) = false := by simpa using c
  rw [this]
  rfl
theorem smK_get {t : List Nat} {l : List (Dl Str)} {k : Nat} (hl : l.length = t.length) (hk : k ∈ t) : getD' (smK t l) (.inl (k : Int)) = some (dealD ((l[t.idxOf k]?).getD dl0)) := by
  unfold getD' smK
  have go : ∀ {t : List Nat} {l : List (Dl Str)}, l.length = t.length → k ∈ t → (((t.zip l).map fun p => ((.inl (p.1 : Int), dealD p.2) : Key × D)).find? fun kv => decide (kv.1 = .inl (k : Int))).map (·.2) = some (dealD ((l[t.idxOf k]?).getD dl0)) := by
    intro t
    induction t with
    | nil => intro l _ h; cases h
    | cons y t ih =>
      intro l hl hk
      cases l with
      | nil => simp at hl
      | cons d l =>
        rw [List.zip_cons_cons, List.map_cons, List.find?_cons]
        by_cases c : y = k
        · subst c
          rw [decide_eq_true rfl, List.idxOf_cons_self]
          rfl
        · rw [decide_eq_false (fun z : (Sum.inl (y : Int) : Key) = .inl (k : Int) => c (by have := Sum.inl.inj z; omega)), idxOf_cons' c]
          have hk : k ∈ t := by
            rcases List.mem_cons.mp hk with z | z
            · exact absurd z.symm c
            · exact z
          have := ih (l := l) (by simpa using hl) hk
          rw [this]
          rfl
  exact go hl hk
section
variable {ρ : Ro} {Z : Zs} {te ta : TE} {tr : TA} {t : TS} {Φ : PoJ}
theorem ej_max {P : D → Zs → Prop} (h : EaJ tr ρ Z fun as Z' => ∃ i j, as = [.d (.int i), .d (.int j)] ∧ P (.int (if j > i then j else i)) Z') : EvJ (tCB (fun xs H Q => ∃ i j, xs = [.int i, .int j] ∧ Q (.int (if j > i then j else i)) H) tr) ρ Z P := fun B F H σ en Q k => h B F H σ en _ fun as vs F1 H1 Z1 ⟨i, j, e, p⟩ en1 fr1 r1 _ => by
  subst e
  obtain ⟨v1, ws, rfl, p1, r⟩ := r1
  obtain ⟨v2, ws, rfl, p2, r⟩ := r
  have p1 : v1 = .int i := p1
  have p2 : v2 = .int j := p2
  have r : ws = [] := r
  subst p1 p2 r
  exact ⟨i, j, rfl, k _ _ F1 H1 Z1 p en1 fr1 rfl⟩
/-- a new dict is taken for versions -/
theorem sj_asVers {k : Nat} {p : Addr} (hk : Z[k]? = some (.cell p (.dict []))) (h : SwJ t ρ (Z.set k (.vers p [])) Φ) : SwJ t ρ Z Φ := fun B F H σ en Dn kn kr kb kc => by
  have m : MutC F H (.dict []) p := en.z.at_ _ (List.mem_of_getElem? hk)
  obtain ⟨kvs, hp, r⟩ := m
  have r : kvs = [] := r
  subst r
  obtain ⟨en1, fr⟩ := en.turn (z' := .vers p []) (H' := H) hk (fun a o _ h => h) ⟨hp, fun c h => nomatch h⟩ (fun a h => .inl h) (List.pairwise_singleton _ _)
  exact h B F H σ en1 Dn kn kr kb kc
/-- return (a new list, an object, a datum) -/
theorem sj_retT {i j : Nat} {p : Addr} {d : D} {ds : List D} (hn : EvN te ρ (.list ds)) (hi : ρ[i]? = some (.ptr p)) (hj : ρ[j]? = some (.im d)) (h : ∀ L, Φ.rt (.t L p d) (Z ++ [.cell L (.list ds)])) : SwJ (tRet (tTup (tCons te (tCons (tVar i) (tCons (tVar j) tNil))))) ρ Z Φ := fun B F H σ en Dn kn kr kb kc =>
  hn B F H σ en.e _ fun L F1 H1 hL g nf m => by
    have en1 := (en.gw g).add (p := L) (d := .list ds) (fun z => en.z.there L z hL) nf (en.e.bs.free hL) m
    obtain ⟨v, hv, r⟩ := en1.e.im j d hj
    refine ⟨.ref p, en1.e.pt i p hi, v, hv, big_ok (by simp), fun T hT => ?_⟩
    have gT : Gw F1 H1 F1 (upd H1 T (.tup [.ref L, .ref p, v])) := gw_upd en1.e.fh hT
    have en2 := en1.gw gT
    exact kr (.t L p d) _ F1 _ _ (h L) en2.e.ex en2.z en2.nb ⟨T, v, rfl, upd_same, Rp.mo gT.mo _ _ r⟩
end
section
variable {P : Program} {w : World} {K : PySem.W.Frag} {mg : Str → Option Value} {base : Heap}
abbrev s__law_dealt : Stmt := topS 40
theorem sc__law_dealt : FnScope ["jar", "most", "names", "turns", "times", "store", "versions", "some", "at", "doings", "begin", "k"] ["jar", "most"] (defScope s__law_dealt) := ⟨rfl, rfl, rfl, by decide +kernel, rfl, by decide +kernel, by decide +kernel⟩
def pDl (es : List A) (Z : Zs) : Prop := ∃ (pj : Addr) (x f : Int), es = [.p pj, .d (.int 12)] ∧ Z = [.cell pj (jarD x f)] ∧ JarOk x f
def rDl (es : List A) (_ : Zs) (r : A) (Z' : Zs) : Prop := ∃ (pj L pv : Addr) (x f : Int) (n1 n2 n3 : Str) (t : List Nat) (tm : Int) (l : List (Dl Str)) (st : Sto) (cs : Cs), es = [.p pj, .d (.int 12)] ∧ Z' = [.cell pj (jarD x f), .vers pv cs, .cell L (.list ((spread t l).map dealD))] ∧ JarOk x f ∧
  NameOk n1 ∧ NameOk n2 ∧ NameOk n3 ∧ 1 ≤ t.length ∧ t.length ≤ 12 ∧ t.Perm (List.range t.length) ∧ tm ∈ Tms ∧ Gen [n1, n2, n3] tm l st (vrOf cs) ∧ l.length = t.length ∧ r = .t L pv (.list ((nI t).map .int))
theorem cal__law_dealt (F : DefAt K mg "_law_dealt" s__law_dealt ["jar", "most"]) (T : Bt mg) (C__law_take : Cal P w K mg base "_law_take" ["jar", "many"] 2 (CtJ pTk rTk)) (C__law_names : Cal P w K mg base "_law_names" ["jar"] 2 (CtJ pNm rNm)) (C__law_turns : Cal P w K mg base "_law_turns" ["jar", "many"] 2 (CtJ pTn rTn)) (C__law_doings : Cal P w K mg base "_law_doings" ["jar", "names", "store", "versions"] 2 (CtJ pDo rDo)) : Cal P w K mg base "_law_dealt" ["jar", "most"] 3 (CtJ pDl rDl) := by
  refine cal_J F sc__law_dealt (fun es Z ⟨_, _, _, e, _⟩ => by rw [e]; rfl) (fun es Z r Z' ⟨pj, x, f, e, ez, _⟩ h a ha => ?_) (fun f cdv A outer s H E hr => ?_)
  · obtain ⟨pj', L, pv, x', f', n1, n2, n3, t, tm, l, st, cs, e', ez', _⟩ := h
    rw [e] at e'
    injection e' with e1 _
    injection e1 with e1
    subst e1
    rw [ez] at ha
    rw [ez']
    rw [show a = pj by simpa [adrs, Res.adrs] using ha]
    exact .head _
  have hu := hu_of hr
  refine ⟨_, (pss_cons (ps_set (i := 2) sc__law_dealt.nd rfl (.inl rfl) (pe_callC _ C__law_names hr (pa_cons (pv 0) pa_nil)))
      (pss_cons (ps_set (i := 3) sc__law_dealt.nd rfl (.inl rfl) (pe_callC _ C__law_turns hr (pa_cons (pv 0) (pa_cons (pe_op op_add pe_int (pe_callC _ C__law_take hr (pa_cons (pv 0) (pa_cons (pv 1) pa_nil)))) pa_nil))))
      (pss_cons (ps_set (i := 4) sc__law_dealt.nd rfl (.inl rfl) (pe_ix ix_list (pe_lst (pa_cons pe_int (pa_cons pe_int (pa_cons pe_int (pa_cons (pe_op op_add (pe_op op_pow pe_int pe_int) pe_int) (pa_cons (pe_op op_pow pe_int pe_int) pa_nil)))))) (pe_callC _ C__law_take hr (pa_cons (pv 0) (pa_cons pe_int pa_nil))) (fun _ _ => rfl)))
      (pss_cons (ps_set (i := 5) sc__law_dealt.nd rfl (.inl rfl) pe_dnewK)
      (pss_cons (ps_set (i := 6) sc__law_dealt.nd rfl (.inl rfl) pe_dnewK)
      (pss_cons (ps_set (i := 7) sc__law_dealt.nd rfl (.inr rfl) pe_dnewK)
      (pss_cons (ps_for PassesOwn.never rfl (pi_range1 rfl T.range_ (pa_cons (pe_callB call_len_seq (by rfl) T.len_ PySem.boot_len (pa_cons (pv 3) pa_nil)) pa_nil)) (pg_name (i := 8) sc__law_dealt.nd rfl (.inl rfl) (.inl rfl)) (pss_cons (ps_set (i := 9) sc__law_dealt.nd rfl (.inl rfl) (pe_callC _ C__law_doings hr (pa_cons (pv 0) (pa_cons (pv 2) (pa_cons (pv 5) (pa_cons (pv 6) pa_nil))))))
      (pss_cons (ps_set (i := 10) sc__law_dealt.nd rfl (.inl rfl) (pe_op op_mulW (pe_callB (call_max2 rfl) (by rfl) T.max_ (by decide +kernel) (pa_cons pe_int (pa_cons (pe_op op_sub (pe_op op_mulW pe_int (pv 8)) (pe_callC _ C__law_take hr (pa_cons (pv 0) (pa_cons pe_int pa_nil)))) pa_nil))) (pv 4)))
      (pss_one (ps_dput hu (pv 7) (pe_ix ix_list (pv 3) (pv 8) (fun _ _ => rfl)) (pe_tup (pa_cons (pv 10) (pa_cons (pe_op op_mulW (pe_op op_add (pe_op op_add (pe_op op_mulW pe_int (pv 8)) pe_int) (pe_callC _ C__law_take hr (pa_cons (pv 0) (pa_cons pe_int pa_nil)))) (pv 4)) (pa_cons (pv 9) pa_nil)))) rfl)))))
      (pss_one (ps_ret (pe_tup (pa_cons (pe_lc (own := [("k", 11)]) (g := gName 11) (by rfl) sc__law_dealt.nd (pi_range1 rfl T.range_ (pa_cons (pe_callB call_len_seq (by rfl) T.len_ PySem.boot_len (pa_cons (pv 3) pa_nil)) pa_nil)) (blkOk_by (own := [("k", 11)]) (N := ["jar", "most", "names", "turns", "times", "store", "versions", "some", "at", "doings", "begin", "k"]) (sc := defScope s__law_dealt) (by decide +kernel)) (fun _ _ _ _ _ => (pg_name (i := 11) sc__law_dealt.nd rfl (.inl rfl) (.inr rfl))) (fun _ _ _ _ _ => pts_nil) (fun _ _ _ _ _ => (pe_dget hu (pv 7) (pv 11) (fun _ _ => rfl)))) (pa_cons (pv 6) (pa_cons (pv 3) pa_nil))))))))))))), fun es Z ⟨pj, x0, f0, e, ez, ok0⟩ => ?_⟩
  subst e ez
  -- names
  refine sj_seq (sj_asgM (fun d Z' => ∃ (n1 n2 n3 : Str) (x f : Int), d = .list [.str n1, .str n2, .str n3] ∧ NameOk n1 ∧ NameOk n2 ∧ NameOk n3 ∧ JarOk x f ∧ Z' = [.cell pj (jarD x f)])
    (ej_call (Pa := fun es Z1 => es = [.p pj] ∧ Z1 = [.cell pj (jarD x0 f0)]) (ea_p rfl (ea_nilJ ⟨rfl, rfl⟩)) fun es Z1 ⟨e1, e2⟩ => by
      subst e1 e2
      refine ⟨[.cell pj (jarD x0 f0)], [], List.Perm.refl _, ⟨pj, x0, f0, rfl, rfl, ok0⟩, fun r Z' ⟨p', x, f, n1, n2, n3, e, ez, ok, er, h1, h2, h3⟩ => ?_⟩
      injection e with e1 _
      injection e1 with e1
      subst e1
      exact ⟨_, Z', er, by rw [List.append_nil], n1, n2, n3, x, f, rfl, h1, h2, h3, ok, ez⟩) fun d Z' ⟨n1, n2, n3, x1, f1, e1, h1, h2, h3, ok1, e2⟩ => ?_)
  subst e1 e2
  -- turns
  refine sj_seq (sj_asgM (fun d Z' => ∃ (t : List Nat) (x f : Int), d = .list ((nI t).map .int) ∧ 1 ≤ t.length ∧ t.length ≤ 12 ∧ t.Perm (List.range t.length) ∧ JarOk x f ∧ Z' = [.cell pj (jarD x f)])
    (ej_call (Pa := fun es Z1 => ∃ (n : Nat) (x f : Int), es = [.p pj, .d (.int (n : Int))] ∧ 1 ≤ n ∧ n ≤ 12 ∧ JarOk x f ∧ Z1 = [.cell pj (jarD x f)]) (ea_p rfl (ea_d (Pa := fun d Z1 => ∃ (n : Nat) (x f : Int), d = .int (n : Int) ∧ 1 ≤ n ∧ n ≤ 12 ∧ JarOk x f ∧ Z1 = [.cell pj (jarD x f)])
      (ej_op (Pa := fun d Z1 => d = .int 1 ∧ Z1 = [.cell pj (jarD x1 f1)]) (ej_ev ev_int ⟨rfl, rfl⟩) fun d Z1 ⟨e1, e2⟩ => by
        subst e1 e2
        exact ej_take (k := 0) (m := 12) rfl (ej_ev (ev_var rfl) ⟨rfl, rfl⟩) rfl ok1 (by decide) (by decide) fun v x' f' v0 v1 ok' => by
          obtain ⟨n, rfl⟩ := Int.eq_ofNat_of_zero_le v0
          exact ⟨.int (1 + (n : Int)), rv_add, 1 + n, x', f', congrArg D.int (by omega), by omega, by omega, ok', rfl⟩)
      fun d Z1 ⟨n, x, f, e1, n1, n12, ok, e2⟩ => ea_nilJ ⟨n, x, f, by rw [e1], n1, n12, ok, e2⟩)) fun es Z1 ⟨n, x, f, e1, hn1, n12, ok, e2⟩ => by
      subst e1 e2
      refine ⟨[.cell pj (jarD x f)], [], List.Perm.refl _, ⟨pj, x, f, n, rfl, rfl, ok, n12⟩, fun r Z' ⟨p', x', f', n', t, e, ez, ok', er, pm⟩ => ?_⟩
      injection e with e1 e
      injection e1 with e1
      injection e with e2 _
      injection e2 with e2
      injection e2 with e2
      have e2 : n = n' := by omega
      subst e1 e2
      have tl : t.length = n := by rw [pm.length_eq, List.length_range]
      exact ⟨_, Z', er, by rw [List.append_nil], t, x', f', rfl, by omega, by omega, by rw [tl]; exact pm, ok', ez⟩) fun d Z' ⟨t, x2, f2, e1, t1, t12, pm, ok2, e2⟩ => ?_)
  subst e1 e2
  -- times
  refine sj_seq (sj_asgM (fun d Z' => ∃ (tm x f : Int), d = .int tm ∧ tm ∈ Tms ∧ JarOk x f ∧ Z' = [.cell pj (jarD x f)])
    (ej_op (Pa := fun d Z1 => d = .list (Tms.map .int) ∧ Z1 = [.cell pj (jarD x2 f2)]) (ej_ev (EvN.ev (en_lst (ea_cons ev_int (ea_cons ev_int (ea_cons ev_int (ea_cons (ev_op (ev_op ev_int ev_int (rv_I (C := CPow) (f := .int (10 ^ 9)) ⟨by decide, by decide, by decide⟩ fun _ _ => rfl)) ev_int rv_add) (ea_cons (ev_op ev_int ev_int (rv_I (C := CPow) (f := .int (10 ^ 50)) ⟨by decide, by decide, by decide⟩ fun _ _ => rfl)) ea_nil))))) (by simp))) ⟨rfl, rfl⟩) fun d Z1 ⟨e1, e2⟩ => by
      subst e1 e2
      exact ej_take (k := 0) (m := 5) rfl (ej_ev ev_int ⟨rfl, rfl⟩) rfl ok2 (by decide) (by decide) fun v x' f' v0 v1 ok' => by
        obtain ⟨tm, h1, h2⟩ := tms_at v0 v1
        exact ⟨.int tm, rv_ixL h2, tm, x', f', rfl, h1, ok', rfl⟩) fun d Z' ⟨tm, x3, f3, e1, htm, ok3, e2⟩ => ?_)
  subst e1 e2
  obtain ⟨tm1, tmb⟩ := tms_big htm
  refine sj_seq (sj_asgN en_dictK fun ps => ?_)
  refine sj_seq (sj_asgN en_dictK fun pv => ?_)
  refine sj_seq (sj_asgN en_dictK fun pS => ?_)
  refine sj_asVers (k := 2) (p := pv) rfl ?_
  refine sj_seq (sj_for [8, 9, 10] (P := fun l Z' => l = upto t.length ∧ Z' = [.cell pj (jarD x3 f3), .cell ps (.dict []), .vers pv [], .cell pS (.dict [])]) (wj_ev (wk_range (ea_cons (Ev.cast (ev_lenL (ev_var rfl)) (by rw [List.length_map, nI_len])) ea_nil) (by omega)) ⟨rfl, rfl⟩) fun ds Z1 ⟨e1, e2⟩ => ?_)
  subst e1 e2
  rw [upto_len]
  refine ⟨fun i ρ Z => ∃ (x f : Int) (st : Sto) (cs : Cs) (l : List (Dl Str)), JarOk x f ∧ Gen [n1, n2, n3] tm l st (vrOf cs) ∧ l.length = i ∧
    ρ = [.ptr pj, .im (.int 12), .im (.list [.str n1, .str n2, .str n3]), .im (.list ((nI t).map .int)), .im (.int tm), .ptr ps, .ptr pv, .ptr pS, .no, .no, .no, .no] ∧ Z = [.cell pj (jarD x f), .cell ps (.dict (storeK st)), .vers pv cs, .cell pS (.dict (smK t l))],
    ⟨x3, f3, [], [], [], ok3, .nil, rfl, rfl, by unfold smK; rw [List.zip_nil_right]; rfl⟩, fun i d ρ Z hd ⟨x, f, st, cs, l, ok, gen, len, er, ez⟩ => ⟨_, tj_name, ?_⟩, fun ρ Z ⟨x, f, st, cs, l, ok, gen, len, er, ez⟩ => ?_⟩
  · subst er ez
    have hi : i < t.length := by
      have := (List.getElem?_eq_some_iff.mp hd).1
      rwa [upto_len] at this
    rw [upto_get hi] at hd
    cases hd
    obtain ⟨g, tot⟩ := gen.ok
    -- the doings
    refine sj_seq (sj_asgM (fun d Z' => ∃ (x f : Int) (st' : Sto) (cs' : Cs) (ds : List (Dd Str)), d = .tuple (ds.map deedD) ∧ DoRun [n1, n2, n3] st (vrOf cs) ds st' (vrOf cs') ∧ ds.length ≤ 4 ∧ JarOk x f ∧ Z' = [.cell pj (jarD x f), .cell ps (.dict (storeK st')), .vers pv cs', .cell pS (.dict (smK t l))])
      (ej_call (Pa := fun es Z1 => es = [.p pj, .d (.list [.str n1, .str n2, .str n3]), .p ps, .p pv] ∧ Z1 = [.cell pj (jarD x f), .cell ps (.dict (storeK st)), .vers pv cs, .cell pS (.dict (smK t l))]) (ea_p rfl (ea_d (Pa := fun d Z1 => d = .list [.str n1, .str n2, .str n3] ∧ Z1 = [.cell pj (jarD x f), .cell ps (.dict (storeK st)), .vers pv cs, .cell pS (.dict (smK t l))]) (ej_ev (ev_var rfl) ⟨rfl, rfl⟩) fun d Z1 ⟨e1, e2⟩ => by
        subst e1 e2
        exact ea_p rfl (ea_p rfl (ea_nilJ ⟨rfl, rfl⟩)))) fun es Z1 ⟨e1, e2⟩ => by
        subst e1 e2
        refine ⟨[.cell pj (jarD x f), .cell ps (.dict (storeK st)), .vers pv cs], [.cell pS (.dict (smK t l))], List.Perm.refl _, ⟨pj, ps, pv, x, f, n1, n2, n3, st, cs, rfl, rfl, ok, g, by omega⟩, fun r Z' ⟨pj', ps', pv', x', f', x'', f'', m1, m2, m3, st', st'', cs', cs'', ds, e, ez, ez', ok', er, run, dl, sub⟩ => ?_⟩
        injection e with e1 e
        injection e1 with e1
        injection e with e2 e
        injection e2 with e2
        injection e2 with e2
        injection e2 with a1 e2
        injection e2 with a2 e2
        injection e2 with a3 _
        injection a1 with a1
        injection a2 with a2
        injection a3 with a3
        injection e with e3 e
        injection e3 with e3
        injection e with e4 _
        injection e4 with e4
        subst e1 a1 a2 a3 e3 e4
        injection ez with _ ez
        injection ez with q1 ez
        injection ez with q2 _
        injection q1 with _ q1
        injection q1 with q1
        injection q2 with _ q2
        have q1 := storeK_inj q1
        subst q1 q2 ez'
        exact ⟨_, _, er, List.Perm.refl _, x'', f'', st'', cs'', ds, rfl, run, dl, ok', rfl⟩) fun d Z' ⟨x4, f4, st', cs', ds, e1, run, dl, ok4, e2⟩ => ?_)
    subst e1 e2
    -- the begin
    have m64 : ∀ u v : Int, 0 ≤ u → u < 25 → 0 ≤ v → v < 25 → ((if 10 * (i : Int) - u > 0 then 10 * (i : Int) - u else 0).natAbs < 2 ^ 64) ∧ (10 * (i : Int) + 1 + v).natAbs < 2 ^ 64 := fun u v u0 u1 v0 v1 => by
      constructor
      · by_cases c : 10 * (i : Int) - u > 0
        · rw [if_pos c]; omega
        · rw [if_neg c]; decide
      · omega
    have t10 : ∀ {ρ : Ro}, ρ[8]? = some (.im (.int (i : Int))) → Ev (tOp (rI CMulW fun i j => .int (i * j)) (tC (.int 10)) (tVar 8)) ρ (.int (10 * (i : Int))) := fun h => ev_op ev_int (ev_var h) (rv_I (C := CMulW) (f := .int (10 * (i : Int))) (mulW_ok (by decide) (by omega)) fun _ _ => rfl)
    refine sj_seq (sj_asgM (fun d Z' => ∃ (u x f : Int), d = .int (bgn i u tm) ∧ 0 ≤ u ∧ u < 25 ∧ JarOk x f ∧ Z' = [.cell pj (jarD x f), .cell ps (.dict (storeK st')), .vers pv cs', .cell pS (.dict (smK t l))])
      (ej_op (Pa := fun d Z' => ∃ (u x f : Int), d = .int (if 10 * (i : Int) - u > 0 then 10 * (i : Int) - u else 0) ∧ 0 ≤ u ∧ u < 25 ∧ JarOk x f ∧ Z' = [.cell pj (jarD x f), .cell ps (.dict (storeK st')), .vers pv cs', .cell pS (.dict (smK t l))])
        (ej_max (ea_d (Pa := fun d Z1 => d = .int 0 ∧ Z1 = _) (ej_ev ev_int ⟨rfl, rfl⟩) fun d Z1 ⟨e1, e2⟩ => by
          subst e1 e2
          refine ea_d (Pa := fun d Z' => ∃ (u x f : Int), d = .int (10 * (i : Int) - u) ∧ 0 ≤ u ∧ u < 25 ∧ JarOk x f ∧ Z' = [.cell pj (jarD x f), .cell ps (.dict (storeK st')), .vers pv cs', .cell pS (.dict (smK t l))]) (ej_op (Pa := fun d Z1 => d = .int (10 * (i : Int)) ∧ Z1 = _) (ej_ev (t10 rfl) ⟨rfl, rfl⟩) fun d Z1 ⟨e1, e2⟩ => by
            subst e1 e2
            exact ej_take (k := 0) (m := 25) rfl (ej_ev ev_int ⟨rfl, rfl⟩) rfl ok4 (by decide) (by decide) fun v x' f' v0 v1 ok' => ⟨.int (10 * (i : Int) - v), rv_sub, v, x', f', rfl, v0, v1, ok', rfl⟩) fun d Z1 ⟨u, x, f, e1, u0, u1, ok, e2⟩ => ?_
          subst e1 e2
          exact ea_nilJ ⟨0, 10 * (i : Int) - u, rfl, u, x, f, rfl, u0, u1, ok, rfl⟩)) fun d Z1 ⟨u, x, f, e1, u0, u1, ok, e2⟩ => by
        subst e1 e2
        exact ej_ev (ev_var rfl) ⟨.int (bgn i u tm), rv_I (C := CMulW) (mulW_ok (m64 u 0 u0 u1 (by decide) (by decide)).1 tmb) fun _ _ => rfl, u, x, f, rfl, u0, u1, ok, rfl⟩) fun d Z' ⟨u, x5, f5, e1, u0, u1, ok5, e2⟩ => ?_)
    subst e1 e2
    refine sj_dput (p := pS) (kds := []) (key := .inl 0) rfl (ej_tup (ea_d (Pa := fun d Z1 => d = .int (bgn i u tm) ∧ Z1 = _) (ej_ev (ev_var rfl) ⟨rfl, rfl⟩) fun d Z1 ⟨e1, e2⟩ => ?_))
    subst e1 e2
    refine ea_d (Pa := fun d Z' => ∃ (v x f : Int), d = .int (ndn i v tm) ∧ 0 ≤ v ∧ v < 25 ∧ JarOk x f ∧ Z' = [.cell pj (jarD x f), .cell ps (.dict (storeK st')), .vers pv cs', .cell pS (.dict (smK t l))])
      (ej_op (Pa := fun d Z' => ∃ (v x f : Int), d = .int (10 * (i : Int) + 1 + v) ∧ 0 ≤ v ∧ v < 25 ∧ JarOk x f ∧ Z' = [.cell pj (jarD x f), .cell ps (.dict (storeK st')), .vers pv cs', .cell pS (.dict (smK t l))])
        (ej_op (Pa := fun d Z1 => d = .int (10 * (i : Int) + 1) ∧ Z1 = _) (ej_ev (ev_op (t10 rfl) ev_int rv_add) ⟨rfl, rfl⟩) fun d Z1 ⟨e1, e2⟩ => by
          subst e1 e2
          exact ej_take (k := 0) (m := 25) rfl (ej_ev ev_int ⟨rfl, rfl⟩) rfl ok5 (by decide) (by decide) fun v x' f' v0 v1 ok' => ⟨.int (10 * (i : Int) + 1 + v), rv_add, v, x', f', rfl, v0, v1, ok', rfl⟩) fun d Z1 ⟨v, x, f, e1, v0, v1, ok, e2⟩ => by
        subst e1 e2
        exact ej_ev (ev_var rfl) ⟨.int (ndn i v tm), rv_I (C := CMulW) (mulW_ok (m64 0 v (by decide) (by decide) v0 v1).2 tmb) fun _ _ => rfl, v, x, f, rfl, v0, v1, ok, rfl⟩) fun d Z1 ⟨v, x6, f6, e1, v0, v1, ok6, e2⟩ => ?_
    subst e1 e2
    refine ea_d (Pa := fun d Z1 => d = .tuple (ds.map deedD) ∧ Z1 = _) (ej_ev (ev_var rfl) ⟨rfl, rfl⟩) fun d Z1 ⟨e1, e2⟩ => ?_
    subst e1 e2
    refine ea_nilJ ⟨[.int (bgn i u tm), .int (ndn i v tm), .tuple (ds.map deedD)], rfl, by simp, ?_⟩
    have hti : t[l.length]? = some (t[i]'hi) := by rw [len]; exact List.getElem?_eq_getElem hi
    refine ej_ev (d := .int ((t[i]'hi : Nat) : Int)) (ev_op (ev_var rfl) (ev_var rfl) (rv_ixL (atI_nat (j := i) (by unfold nI; rw [List.getElem?_map, List.getElem?_map, List.getElem?_eq_getElem hi]; rfl)))) ⟨3, smK t l, .inl ((t[i]'hi : Nat) : Int), rfl, rfl, by unfold smK; rw [List.length_map, List.length_zip]; omega, ?_⟩
    refine ⟨x6, f6, st', cs', l ++ [⟨bgn l.length u tm, ndn l.length v tm, ds⟩], ok6, .step gen run dl u0 u1 v0 v1, by rw [List.length_append, len]; rfl, rfl, ?_⟩
    rw [← smK_put (pm.nodup_iff.mpr List.nodup_range) hti, len]
    rfl
  · subst er ez
    refine sj_thaw (i := 7) (p := pS) (d := .dict (smK t l)) (Z1 := [.cell pj (jarD x f), .cell ps (.dict (storeK st)), .vers pv cs]) rfl (List.Perm.refl _) ?_
    refine sj_dropZ (Z1 := [.cell pj (jarD x f), .vers pv cs]) (Z2 := [.cell ps (.dict (storeK st))]) ((List.Perm.swap _ _ _).cons _) ?_
    refine sj_retT (ds := (spread t l).map dealD) (p := pv) (d := .list ((nI t).map .int)) (EvN.cast (en_lc (List.range t.length) (fun x : Nat => .int (x : Int)) (wk_range (ea_cons (Ev.cast (ev_lenL (ev_var rfl)) (by rw [List.length_map, nI_len])) ea_nil) (by omega)) (fun k => some (dealD ((l[t.idxOf k]?).getD dl0))) (by rw [List.length_range]; omega) (fun i k hk => ⟨_, _, tg_name, by decide, et_yes, fun e he => by
      cases he
      have hk2 : k ∈ t := pm.mem_iff.mpr (List.mem_of_getElem? hk)
      exact ev_dgetI (kds := smK t l) (n := (k : Int)) (ev_var rfl) (ev_var rfl) (smK_get (by omega) hk2)⟩)) ?_) rfl rfl fun L => ?_
    · unfold spread
      rw [List.filterMap_eq_map', List.map_map]
      rfl
    · exact ⟨pj, L, pv, x, f, n1, n2, n3, t, tm, l, st, cs, rfl, rfl, ok, h1, h2, h3, t1, t12, pm, htm, gen, len, rfl⟩
end
end Tk

set_option Elab.async false
set_option linter.all false
set_option maxRecDepth 100000
set_option maxHeartbeats 4000000
/-! E9: who writes. -/
namespace Tk
open PySem PySem.Spec PyProof.Rows L2 Dm
theorem verbS_ne {a b : Bool} (h : ¬ a = b) : ¬ verbS a = verbS b := by
  cases a <;> cases b <;> first | exact absurd rfl h | decide +kernel
theorem eqv_deed (p q : Dd Str) : PyData.eqv (toPy (deedD p)) (toPy (deedD q)) = decide (p = q) := by
  show ((verbS p.w == verbS q.w) && ((p.n == q.n) && ((p.v == q.v) && true))) = _
  by_cases c : p = q
  · subst c
    simp
  · rw [decide_eq_false c]
    by_cases c1 : p.w = q.w
    · by_cases c2 : p.n = q.n
      · by_cases c3 : p.v = q.v
        · exact absurd (by cases p; cases q; cases c1; cases c2; cases c3; rfl) c
        · simp [c3]
      · simp [c2]
    · simp [verbS_ne c1]
theorem any_deed (l : List (Dd Str)) (p : Dd Str) : ((toPys (l.map deedD)).any fun z => PyData.eqv z (toPy (deedD p))) = decide (p ∈ l) := by
  rw [toPys_map, List.any_map]
  induction l with
  | nil => rfl
  | cons q l ih =>
    rw [List.any_cons, ih]
    show (PyData.eqv (toPy (deedD q)) (toPy (deedD p)) || _) = _
    rw [eqv_deed]
    by_cases c : q = p
    · simp [c]
    · have c' : ¬ p = q := fun z => c z.symm
      simp [c, c']
theorem ok_deed {x : Dd Str} (h : NameOk x.n) : (toPy (deedD x)).canLay0 = true ∧ (toPy (deedD x)).depth ≤ 2 := by
  refine ⟨?_, by show max 0 (max 0 (max 0 0)) + 1 ≤ 2; omega⟩
  show (PyData.strOk (verbS x.w) && (PyData.strOk x.n && (true && true))) = true
  rw [name_ok h]
  cases x.w <;> decide +kernel
section
variable {P : Program} {w : World} {K : PySem.W.Frag} {mg : Str → Option Value} {base : Heap}
abbrev s__law_writer : Stmt := topS 41
theorem sc__law_writer : FnScope ["some", "name", "worth", "number"] ["some", "name", "worth"] (defScope s__law_writer) := ⟨rfl, rfl, rfl, by decide +kernel, rfl, by decide +kernel, by decide +kernel⟩
def pLw (ds : List D) : Prop := ∃ (dl : List (Dl Str)) (n : Str) (v : Int), ds = [.list (dl.map dealD), .str n, .int v] ∧ dl.length ≤ 100 ∧ NameOk n ∧ ∀ d ∈ dl, ∀ x ∈ d.ds, NameOk x.n
def rLw (ds : List D) (r : D) : Prop := ∃ (dl : List (Dl Str)) (n : Str) (v : Int), ds = [.list (dl.map dealD), .str n, .int v] ∧ ((∃ i : Nat, r = .int (i : Int) ∧ Wr dl n v i) ∨ (r = .none ∧ ∀ i, ¬ Wr dl n v i))
theorem wn_mem {n : Str} {v : Int} {l : List (Dd Str)} : v ∈ wn n l ↔ (⟨true, n, v⟩ : Dd Str) ∈ l := by
  unfold wn
  rw [List.mem_filterMap]
  constructor
  · rintro ⟨x, hx, e⟩
    by_cases c : x.w = true ∧ x.n = n
    · rw [if_pos c] at e
      injection e with e
      obtain ⟨c1, c2⟩ := c
      cases x
      cases c1
      cases c2
      cases e
      exact hx
    · rw [if_neg c] at e
      cases e
  · intro h
    exact ⟨_, h, if_pos ⟨rfl, rfl⟩⟩
theorem cal__law_writer (F : DefAt K mg "_law_writer" s__law_writer ["some", "name", "worth"]) (T : Bt mg) : Cal P w K mg base "_law_writer" ["some", "name", "worth"] 1 (Ct pLw rLw) := by
  refine cal_data F sc__law_writer (fun ds ⟨_, _, _, e, _⟩ => by rw [e]; rfl) (fun f cdv A outer s H E hr => ?_)
  have hu := hu_of hr
  refine ⟨_, (pss_cons (ps_for PassesOwn.never rfl (pi_range1 rfl T.range_ (pa_cons (pe_callB call_len_seq (by rfl) T.len_ PySem.boot_len (pa_cons (pv 0) pa_nil)) pa_nil)) (pg_name (i := 3) sc__law_writer.nd rfl (.inl rfl) (.inl rfl)) (pss_one (ps_if (pt_cmpR (op_inDT hr.units65) (pe_tup (pa_cons pe_str (pa_cons (pv 1) (pa_cons (pv 2) pa_nil)))) (pe_ix ix_tup (pe_ix ix_list (pv 0) (pv 3) (fun _ _ => rfl)) pe_int (fun _ _ => rfl)) (by rfl)) (pss_one (ps_ret (pv 3))) pss_nil)))
      (pss_one (ps_ret pe_non))), fun ds ⟨dl, n, v, e, h1, hn, hx⟩ => ?_⟩
  subst e
  refine sw_seq (sw_forN [3] dl.length (wk_range (ea_cons (Ev.cast (ev_lenL (ev_var rfl)) (by rw [List.length_map])) ea_nil) (by omega)) (fun i ρ => ρ = [.im (.list (dl.map dealD)), .im (.str n), .im (.int v), .no] ∧ ∀ j, j < i → ¬ Wr dl n v j) ⟨rfl, fun j h => absurd h (Nat.not_lt_zero j)⟩ (fun i ρ hi ⟨er, no⟩ => ⟨_, _, tg_name, ?_⟩) fun ρ ⟨er, no⟩ => ?_)
  · subst er
    have hd : dl[i]? = some dl[i] := List.getElem?_eq_getElem hi
    have hm : dl[i] ∈ dl := List.getElem_mem hi
    have e1 : dsOf dl i = dl[i].ds := by unfold dsOf; rw [hd]; rfl
    refine sw_if (et_test (Ev.cast (ev_op (d := deedD ⟨true, n, v⟩) (e := .tuple (dl[i].ds.map deedD)) (ev_tup (ea_cons ev_str (ea_cons (ev_var rfl) (ea_cons (ev_var rfl) ea_nil))) (by simp)) (ev_op (d := dealD dl[i]) (ev_op (d := .list (dl.map dealD)) (e := .int (i : Int)) (ev_var rfl) (ev_var rfl) (rv_ixL (atI_nat (by rw [List.getElem?_map, hd]; rfl)))) ev_int (rv_ixT (atI_nat (j := 2) rfl))) (rv_inDT ?_ (ok_tuple fun x hx' => ok_deed (hx _ hm x hx')))) (congrArg D.bool (any_deed _ _)))) (fun c => ?_) (fun c => sw_next ?_)
    · have o := ok_deed (x := ⟨true, n, v⟩) hn
      unfold okD SeqAt.shaped
      rw [Bool.and_eq_true, decide_eq_true_eq]
      exact ⟨o.1, Nat.le_trans o.2 (by decide)⟩
    · exact sw_ret (ev_var rfl) ⟨dl, n, v, rfl, .inl ⟨i, rfl, hi, by rw [e1]; exact wn_mem.mpr (of_decide_eq_true c)⟩⟩
    · refine ⟨rfl, fun j hj wr => ?_⟩
      by_cases q : j = i
      · subst q
        have := wr.2
        rw [e1] at this
        exact of_decide_eq_false c (wn_mem.mp this)
      · exact no j (by omega) wr
  · subst er
    exact sw_ret ev_non ⟨dl, n, v, rfl, .inr ⟨rfl, fun i wr => no i wr.1 wr⟩⟩
end
end Tk

set_option Elab.async false
set_option linter.all false
set_option maxRecDepth 100000
set_option maxHeartbeats 4000000
/-! E10: another read. -/
namespace Tk
open PySem PySem.Spec PyProof.Rows L2 Dm
theorem Rps.reps {F : FS} {H : Hp} {ds : List D} {vs : List V} (h : Rps F H ds vs) : ∀ n : Nat, Rps F H (List.replicate n ds).flatten (List.replicate n vs).flatten
  | 0 => rfl
  | n + 1 => by
    rw [List.replicate_succ, List.replicate_succ, List.flatten_cons, List.flatten_cons]
    exact h.append (h.reps n)
section
variable {ρ : Ro} {Z : Zs} {te ta tb : TE}
theorem en_rep {ds : List D} {n : Nat} (ha : Ev ta ρ (.list ds)) (hb : Ev tb ρ (.int (n : Int))) (hl : ds.length * n ≤ 10000) (hn : n ≤ 10000) : EvN (tOp rRep ta tb) ρ (.list (List.replicate n ds).flatten) := fun B F H σ en Q k =>
  ha B F H σ en _ fun x F1 H1 g1 r1 => hb B F1 H1 σ (en.gw g1) _ fun y F2 H2 g2 r2 => by
    obtain ⟨a, xs, rfl, fa, hxa, rx⟩ := r1.gw g2
    have r2 : y = .int (n : Int) := r2
    subst r2
    have g := g1.trans g2
    refine ⟨a, (n : Int), xs, rfl, rfl, hxa, by omega, by omega, big_ok (by rw [rx.len, Int.toNat_natCast]; exact hl), fun p hp => ?_⟩
    rw [Int.toNat_natCast]
    exact k p F2 _ (g.s.free hp) (g.trans (gw_upd g2.h hp)) (fun f => g2.h p f hp) ⟨_, upd_same, (rx.reps n).gw (gw_upd g2.h hp)⟩
theorem rv_cat {ds es : List D} (hl : ds.length + es.length ≤ 10000) : RvD rCat (.list ds) (.list es) (.list (ds ++ es)) := fun F H x y Q hF hx hy k => by
  obtain ⟨a, xs, rfl, fa, hxa, rx⟩ := hx
  obtain ⟨b, ys, rfl, fb, hyb, ry⟩ := hy
  exact ⟨a, b, xs, ys, rfl, rfl, hxa, hyb, big_ok (by rw [rx.len, ry.len]; exact hl), fun p hp => k _ (addF F p) _ (Gw.new hF hp) ⟨p, _, rfl, .inr rfl, upd_same, (rx.append ry).gw (Gw.new hF hp)⟩⟩
/-- a cell nobody points to becomes a datum -/
theorem EnvJ.melt {B : Bs} {F : FS} {H : Hp} {σ : L2.St} {p : Addr} {d : D} (e : EnvJ B F H σ ρ (Z ++ [.cell p d])) : EnvJ B (addF F p) H σ ρ Z ∧ Fr F H (addF F p) H ∧ Rp (addF F p) H d (.ref p) := by
  have m : MutC F H d p := e.z.at_ (.cell p d) (by simp)
  have pin : p ∈ adrs (Z ++ [.cell p d]) := mem_adrs_app.mpr (.inr (by simp [adrs, Res.adrs]))
  have np : ∀ a ∈ adrs Z, a ≠ p := fun a ha z => e.z.apart ha (by rw [z]; simp [adrs, Res.adrs])
  refine ⟨⟨⟨e.e.len, fun j d' h => ?_, fun j d' h => (e.pl j _ h).elim, fun j k d1 d2 q h => (e.pl j _ h).elim, fun j a kds h => (e.pl j _ h).elim, e.e.pt, fun a f => ?_, fun a f => .inl (e.e.bf a f), e.e.bs, fun a f => ?_⟩, ⟨fun z hz => Res.to mo_add (e.z.at_ z (List.mem_append_left _ hz)) fun _ _ => rfl, fun a ha f => ?_, ?_⟩, fun a ha => e.nb a (mem_adrs_app.mpr (.inl ha)), e.pl⟩, ⟨fun _ h => .inl h, fun _ _ => rfl⟩, MutC.rp (.inr rfl) (m.at mo_add rfl)⟩
  · obtain ⟨v, a, r⟩ := e.e.im j d' h
    exact ⟨v, a, Rp.mo mo_add _ _ r⟩
  · rcases f with f | f
    · exact e.e.fh a f
    · rw [f]
      exact m.ne
  · rcases f with f | f
    · exact e.e.bn a f
    · exact .inr (f ▸ e.nb p pin)
  · rcases f with f | f
    · exact e.z.nf a (mem_adrs_app.mpr (.inl ha)) f
    · exact np a ha f
  · have := e.z.nd
    unfold adrs at this ⊢
    rw [List.flatMap_append] at this
    exact (List.nodup_append.mp this).1
theorem EvNJ.ev {P : List D → Zs → Prop} (h : EvNJ te ρ Z P) : EvJ te ρ Z fun d Z' => ∃ ds, d = .list ds ∧ P ds Z' := fun B F H σ en Q k => h B F H σ en Q fun ds p F1 H1 Z1 pp en1 fr1 => by
  obtain ⟨en2, fr2, r⟩ := en1.melt
  exact k _ _ _ _ Z1 ⟨ds, rfl, pp⟩ en2 (fr1.trans fr2) r
end
theorem set_cut {α : Type} : ∀ {l : List α} {k : Nat} {x y : α}, l[k]? = some x → l.take k ++ [y] ++ l.drop (k + 1) = l.set k y
  | [], k, x, y, h => by simp at h
  | z :: l, 0, x, y, h => rfl
  | z :: l, k + 1, x, y, h => by
    have h : l[k]? = some x := by simpa using h
    have := set_cut (y := y) h
    show z :: (l.take k ++ [y] ++ l.drop (k + 1)) = z :: l.set k y
    rw [this]
def rdAt (ds : List (Dd Str)) (k : Nat) : Option Nat := match ds[k]? with
  | some x => if x.w = false then some k else none
  | none => none
def rdsOf (ds : List (Dd Str)) : List Nat := (List.range ds.length).filterMap (rdAt ds)
theorem rds_mem {ds : List (Dd Str)} {k : Nat} (h : k ∈ rdsOf ds) : ∃ x, ds[k]? = some x ∧ x.w = false := by
  unfold rdsOf at h
  obtain ⟨j, _, e⟩ := List.mem_filterMap.mp h
  unfold rdAt at e
  cases c : ds[j]? with
  | none => rw [c] at e; cases e
  | some x =>
    rw [c] at e
    by_cases q : x.w = false
    · have e : (if x.w = false then some j else none) = some k := e
      rw [if_pos q] at e
      cases e
      exact ⟨x, c, q⟩
    · have e : (if x.w = false then some j else none) = some k := e
      rw [if_neg q] at e
      cases e
theorem rds_len (ds : List (Dd Str)) : (rdsOf ds).length ≤ ds.length := Nat.le_trans (List.length_filterMap_le _ _) (by rw [List.length_range]; exact Nat.le_refl _)
theorem vl_in {vs : Vr} {n : Str} {v : Int} (h : v ∈ vlOf vs n) : ∃ p ∈ vs, v ∈ p.2 := by
  unfold vlOf at h
  cases c : vs.find? fun p => decide (p.1 = n) with
  | none => rw [c] at h; cases h
  | some p =>
    rw [c] at h
    exact ⟨p, List.mem_of_find?_eq_some c, h⟩
theorem vl_short {vs : Vr} (h : ∀ p ∈ vs, p.2.length ≤ 100) (n : Str) : (vlOf vs n).length ≤ 100 := by
  unfold vlOf
  cases c : vs.find? fun p => decide (p.1 = n) with
  | none => exact Nat.zero_le _
  | some p => exact h p (List.mem_of_find?_eq_some c)
section
variable {P : Program} {w : World} {K : PySem.W.Frag} {mg : Str → Option Value} {base : Heap}
abbrev s__law_other_read : Stmt := topS 42
theorem sc__law_other_read : FnScope ["jar", "doings", "versions", "reads", "at", "worths", "worth", "k"] ["jar", "doings", "versions"] (defScope s__law_other_read) := ⟨rfl, rfl, rfl, by decide +kernel, rfl, by decide +kernel, by decide +kernel⟩
/-- at most one read has another worth -/
def Ord' (ds ds' : List (Dd Str)) : Prop := ds' = ds ∨ ∃ k x v, ds[k]? = some x ∧ x.w = false ∧ WorthOk v ∧ ds' = ds.set k ⟨false, x.n, v⟩
def VsOk (vs : Vr) : Prop := ∀ p ∈ vs, NameOk p.1 ∧ WorthsOk p.2
def pOr (es : List A) (Z : Zs) : Prop := ∃ (pj pv : Addr) (x f : Int) (ds : List (Dd Str)) (cs : Cs), es = [.p pj, .d (.tuple (ds.map deedD)), .p pv] ∧ Z = [.cell pj (jarD x f), .vers pv cs] ∧ JarOk x f ∧ ds.length ≤ 4 ∧ VsOk (vrOf cs)
def rOr (es : List A) (Z : Zs) (r : A) (Z' : Zs) : Prop := ∃ (pj pv : Addr) (x f x' f' : Int) (ds ds' : List (Dd Str)) (cs : Cs), es = [.p pj, .d (.tuple (ds.map deedD)), .p pv] ∧ Z = [.cell pj (jarD x f), .vers pv cs] ∧ Z' = [.cell pj (jarD x' f'), .vers pv cs] ∧ JarOk x' f' ∧ r = .d (.tuple (ds'.map deedD)) ∧ Ord' ds ds'
theorem cal__law_other_read (F : DefAt K mg "_law_other_read" s__law_other_read ["jar", "doings", "versions"]) (T : Bt mg) (C__law_take : Cal P w K mg base "_law_take" ["jar", "many"] 1 (CtJ pTk rTk)) : Cal P w K mg base "_law_other_read" ["jar", "doings", "versions"] 2 (CtJ pOr rOr) := by
  refine cal_J F sc__law_other_read (fun es Z ⟨_, _, _, _, _, _, e, _⟩ => by rw [e]; rfl) (fun es Z r Z' _ h a ha => ?_) (fun f cdv A outer s H E hr => ?_)
  · obtain ⟨pj, pv, x, f, x', f', ds, ds', cs, e, ez, ez', _⟩ := h
    rw [ez] at ha
    rw [ez']
    exact ha
  have hu := hu_of hr
  refine ⟨_, (pss_cons (ps_setLc (i := 3) (own := [("k", 7)]) (g := gName 7) (by rfl) sc__law_other_read.nd rfl rfl (sw_true rfl rfl rfl (by decide +kernel)) (pi_range1 rfl T.range_ (pa_cons (pe_callB call_len_seq (by rfl) T.len_ PySem.boot_len (pa_cons (pv 1) pa_nil)) pa_nil)) (blkOk_by (own := [("k", 7)]) (N := ["jar", "doings", "versions", "reads", "at", "worths", "worth", "k"]) (sc := defScope s__law_other_read) (by decide +kernel)) (fun _ _ _ _ _ => (pg_name (i := 7) sc__law_other_read.nd rfl (.inl rfl) (.inr rfl))) (fun _ _ _ _ _ => pts_one (pt_cmpR op_eq (pe_ix (ix_tupK K) (pe_ix (ix_tupK K) (pv 1) (pv 7) (fun _ _ => rfl)) pe_int (fun _ _ => rfl)) pe_str (nomark _))) (fun _ _ _ _ _ => (pv 7)))
      (pss_cons (ps_if (pt_cmpR (op_eqD hr.units) (pv 3) (pe_lst pa_nil) (nomark _)) (pss_one (ps_ret (pv 1))) pss_nil)
      (pss_cons (ps_set (i := 4) sc__law_other_read.nd rfl (.inl rfl) (pe_ix ix_list (pv 3) (pe_callC _ C__law_take hr (pa_cons (pv 0) (pa_cons (pe_callB call_len_seq (by rfl) T.len_ PySem.boot_len (pa_cons (pv 3) pa_nil)) pa_nil))) (fun _ _ => rfl)))
      (pss_cons (ps_set (i := 5) sc__law_other_read.nd rfl (.inl rfl) (pe_op op_cat (pe_lst (pa_cons pe_int (pa_cons (pe_op op_add pe_int (pe_callC _ C__law_take hr (pa_cons (pv 0) (pa_cons pe_int pa_nil)))) pa_nil))) (pe_op op_rep (pe_dget2 hu (pv 2) (pe_ix ix_tup (pe_ix ix_tup (pv 1) (pv 4) (fun _ _ => rfl)) pe_int (fun _ _ => rfl)) (pe_lst pa_nil) ⟨rfl, rfl, rfl, rfl⟩) pe_int)))
      (pss_cons (ps_set (i := 6) sc__law_other_read.nd rfl (.inl rfl) (pe_ix ix_list (pv 5) (pe_callC _ C__law_take hr (pa_cons (pv 0) (pa_cons (pe_callB call_len_seq (by rfl) T.len_ PySem.boot_len (pa_cons (pv 5) pa_nil)) pa_nil))) (fun _ _ => rfl)))
      (pss_one (ps_ret (pe_op op_catA (pe_op op_catA (pe_slice sl_tupA (pv 1) po_none (po_some (pv 4))) (pe_tup (pa_cons (pe_tup (pa_cons pe_str (pa_cons (pe_ix ix_tup (pe_ix ix_tup (pv 1) (pv 4) (fun _ _ => rfl)) pe_int (fun _ _ => rfl)) (pa_cons (pv 6) pa_nil)))) pa_nil))) (pe_slice sl_tupA (pv 1) (po_some (pe_op op_add (pv 4) pe_int)) po_none))))))))), fun es Z ⟨pj, pv, x0, f0, ds, cs, e, ez, ok0, d4, vok⟩ => ?_⟩
  subst e ez
  have rl := rds_len ds
  refine sj_seq (sj_asg (ej_ev (d := .list ((nI (rdsOf ds)).map .int)) (EvN.ev (EvN.cast (en_lc (List.range ds.length) (fun x : Nat => .int (x : Int)) (wk_range (ea_cons (Ev.cast (ev_lenT (ev_var rfl)) (by rw [List.length_map])) ea_nil) (by omega)) (fun k => (rdAt ds k).map fun k : Nat => D.int (k : Int)) (by rw [List.length_range]; omega) (fun i k hk => ?_)) ?_)) ?_))
  · have hk : k < ds.length := List.mem_range.mp (List.mem_of_getElem? hk)
    have hx : ds[k]? = some ds[k] := List.getElem?_eq_getElem hk
    have er : rdAt ds k = if ds[k].w = false then some k else none := by unfold rdAt; rw [hx]
    refine ⟨_, _, tg_name, by decide, EvT.cast (et_test (Ev.cast (ev_op (ev_op (d := deedD ds[k]) (ev_op (d := .tuple (ds.map deedD)) (e := .int (k : Int)) (ev_var rfl) (ev_var rfl) (rv_ixT (atI_nat (by rw [List.getElem?_map, hx]; rfl)))) ev_int (rv_ixT (atI_nat (j := 0) rfl))) ev_str rv_eqS) (congrArg D.bool (verb_read ds[k].w)))) ?_, fun e he => ?_⟩
    · rw [er]
      cases ds[k].w <;> rfl
    · rw [er] at he
      by_cases c : ds[k].w = false
      · rw [if_pos c] at he
        cases he
        exact ev_var rfl
      · rw [if_neg c] at he
        cases he
  · unfold rdsOf nI
    rw [← List.map_filterMap, List.map_map]
    rfl
  refine sj_seq (sj_if (P := fun b Z' => b = decide (rdsOf ds = []) ∧ Z' = [.cell pj (jarD x0 f0), .vers pv cs]) (et_ofT (EvT.cast (et_test (ev_op (d := .list ((nI (rdsOf ds)).map .int)) (ev_var rfl) (EvN.ev (en_lst ea_nil (by simp))) (rv_eqD (ok_ints (nI (rdsOf ds))) (ok_ints [])))) (d' := decide (rdsOf ds = [])) ?_) ⟨rfl, rfl⟩) (fun Z1 ⟨hb, ez⟩ => ?_) (fun Z1 ⟨hb, ez⟩ => sj_next ?_))
  · rw [show (D.list []) = D.list (List.map D.int []) from rfl, eqvD_ints]
    refine decide_eq_decide.mpr ⟨fun h => List.map_eq_nil_iff.mp h, fun h => by rw [h]; rfl⟩
  · subst ez
    exact sj_ret (ej_ev (ev_var rfl) ⟨pj, pv, x0, f0, x0, f0, ds, ds, cs, rfl, rfl, rfl, ok0, rfl, .inl rfl⟩)
  subst ez
  have ne : rdsOf ds ≠ [] := of_decide_eq_false hb.symm
  have l1 : 1 ≤ (rdsOf ds).length := by
    cases c : rdsOf ds with
    | nil => exact absurd c ne
    | cons a b => exact Nat.succ_pos _
  have lenR : ∀ {ρ : Ro}, ρ[3]? = some (.im (.list ((nI (rdsOf ds)).map .int))) → Ev (tCB (fun xs H Q => ∃ p ys, xs = [.ref p] ∧ (SqL K H p ys ∨ SqT K H p ys) ∧ Q (.int ys.length) H) (tCons (tVar 3) tNil)) ρ (.int ((rdsOf ds).length : Int)) := fun h => Ev.cast (ev_lenL (ev_var h)) (by rw [List.length_map, nI_len])
  -- which read
  refine sj_seq (sj_asgM (fun d Z' => ∃ (k : Nat) (x f : Int) (y : Dd Str), d = .int (k : Int) ∧ ds[k]? = some y ∧ y.w = false ∧ JarOk x f ∧ Z' = [.cell pj (jarD x f), .vers pv cs])
    (ej_op (Pa := fun d Z1 => d = .list ((nI (rdsOf ds)).map .int) ∧ Z1 = [.cell pj (jarD x0 f0), .vers pv cs]) (ej_ev (ev_var rfl) ⟨rfl, rfl⟩) fun d Z1 ⟨e1, e2⟩ => by
      subst e1 e2
      exact ej_take (k := 0) (m := ((rdsOf ds).length : Int)) rfl (ej_ev (lenR rfl) ⟨rfl, rfl⟩) rfl ok0 (by omega) (by omega) fun v x' f' v0 v1 ok' => by
        obtain ⟨j, rfl⟩ := Int.eq_ofNat_of_zero_le v0
        have hj : j < (rdsOf ds).length := by omega
        obtain ⟨y, hy, hw⟩ := rds_mem (List.getElem_mem hj)
        exact ⟨.int (((rdsOf ds)[j] : Nat) : Int), rv_ixL (atI_nat (by unfold nI; rw [List.getElem?_map, List.getElem?_map, List.getElem?_eq_getElem hj]; rfl)), _, x', f', y, rfl, hy, hw, ok', rfl⟩) fun d Z' ⟨k, x1, f1, y, e1, hy, hw, ok1, e2⟩ => ?_)
  subst e1 e2
  have vs100 := vl_short (vs := vrOf cs) (fun p hp => (vok p hp).2.2.1) y.n
  have nm : ∀ {ρ : Ro}, ρ[1]? = some (.im (.tuple (ds.map deedD))) → ρ[4]? = some (.im (.int (k : Int))) → Ev (tOp (rIxT K) (tOp (rIxT K) (tVar 1) (tVar 4)) (tC (.int 1))) ρ (.str y.n) := fun h1 h4 =>
    ev_op (d := deedD y) (ev_op (d := .tuple (ds.map deedD)) (e := .int (k : Int)) (ev_var h1) (ev_var h4) (rv_ixT (atI_nat (by rw [List.getElem?_map, hy]; rfl)))) ev_int (rv_ixT (atI_nat (j := 1) rfl))
  -- the worths
  refine sj_seq (sj_asgM (fun d Z' => ∃ (ws : List Int) (x f : Int), d = .list (ws.map .int) ∧ 1 ≤ ws.length ∧ ws.length ≤ 400 ∧ (∀ v ∈ ws, WorthOk v) ∧ JarOk x f ∧ Z' = [.cell pj (jarD x f), .vers pv cs])
    (ej_op (Pa := fun d Z' => ∃ (u x f : Int), d = .list [.int 0, .int (77 + u)] ∧ 0 ≤ u ∧ u < 900 ∧ JarOk x f ∧ Z' = [.cell pj (jarD x f), .vers pv cs])
      (ej_lst (ea_d (Pa := fun d Z1 => d = .int 0 ∧ Z1 = _) (ej_ev ev_int ⟨rfl, rfl⟩) fun d Z1 ⟨e1, e2⟩ => by
        subst e1 e2
        refine ea_d (Pa := fun d Z' => ∃ (u x f : Int), d = .int (77 + u) ∧ 0 ≤ u ∧ u < 900 ∧ JarOk x f ∧ Z' = [.cell pj (jarD x f), .vers pv cs]) (ej_op (Pa := fun d Z1 => d = .int 77 ∧ Z1 = _) (ej_ev ev_int ⟨rfl, rfl⟩) fun d Z1 ⟨e1, e2⟩ => by
          subst e1 e2
          exact ej_take (k := 0) (m := 900) rfl (ej_ev ev_int ⟨rfl, rfl⟩) rfl ok1 (by decide) (by decide) fun v x' f' v0 v1 ok' => ⟨.int (77 + v), rv_add, v, x', f', rfl, v0, v1, ok', rfl⟩) fun d Z1 ⟨u, x, f, e1, u0, u1, ok, e2⟩ => ?_
        subst e1 e2
        exact ea_nilJ ⟨[.int 0, .int (77 + u)], rfl, by simp, u, x, f, rfl, u0, u1, ok, rfl⟩))
      fun d Z1 ⟨u, x, f, e1, u0, u1, ok, e2⟩ => by
        subst e1 e2
        refine ej_to (EvNJ.ev (en_frz (ds := (List.replicate 3 ((vlOf (vrOf cs) y.n).map D.int)).flatten) (P := fun ds Z' => ds = (List.replicate 3 ((vlOf (vrOf cs) y.n).map D.int)).flatten ∧ Z' = [.cell pj (jarD x f), .vers pv cs]) (ρ' := [.ptr pj, .im (.tuple (ds.map deedD)), .im (verD cs), .im (.list ((nI (rdsOf ds)).map .int)), .im (.int (k : Int)), .no, .no, .no]) ⟨.same _, .same _, .vers (.tail _ (.head _)), .same _, .same _, .same _, .same _, .same _, True.intro⟩ (en_rep (n := 3) (Ev.cast (ev_dget2S (kds := versK (vrOf cs)) (n := y.n) (ev_var (by rw [verD_eq]; rfl)) (nm rfl rfl) (EvN.ev (en_lst ea_nil (by simp)))) (vers_getD _ _)) ev_int (by rw [List.length_map]; omega) (by decide)) (fun d hd => ?_) ⟨rfl, rfl⟩)) fun d Z' ⟨es, e1, e2, e3⟩ => ?_
        · obtain ⟨l, hl, hd⟩ := List.mem_flatten.mp hd
          rw [List.eq_of_mem_replicate hl] at hd
          obtain ⟨v, _, rfl⟩ := List.mem_map.mp hd
          rfl
        · subst e1 e2 e3
          have ef : (List.replicate 3 ((vlOf (vrOf cs) y.n).map D.int)).flatten = (List.replicate 3 (vlOf (vrOf cs) y.n)).flatten.map D.int := by
            rw [List.map_flatten, List.map_replicate]
          have lf : (List.replicate 3 (vlOf (vrOf cs) y.n)).flatten.length = 3 * (vlOf (vrOf cs) y.n).length := by
            rw [List.length_flatten, List.map_replicate, List.sum_replicate_nat]
          rw [ef]
          refine ⟨_, rv_cat (by rw [List.length_map, lf]; show 2 + _ ≤ _; omega), [0, 77 + u] ++ (List.replicate 3 (vlOf (vrOf cs) y.n)).flatten, x, f, by rw [List.map_append]; rfl, ?_, ?_, fun v hv => ?_, ok, rfl⟩
          · rw [List.length_append]
            exact Nat.le_trans (by decide) (Nat.le_add_right 2 _)
          · rw [List.length_append, lf]
            show 2 + _ ≤ _
            omega
          · rcases List.mem_append.mp hv with z | z
            · rcases List.mem_cons.mp z with z | z
              · rw [z]
                exact ⟨by decide, by decide⟩
              · rw [List.mem_singleton.mp z]
                exact ⟨by omega, by omega⟩
            · obtain ⟨l, hl, hv⟩ := List.mem_flatten.mp z
              rw [List.eq_of_mem_replicate hl] at hv
              obtain ⟨p, hp, hv⟩ := vl_in hv
              exact ((vok p hp).2.2.2.2 v hv).1) fun d Z' ⟨ws, x2, f2, e1, w1, w4, wk, ok2, e2⟩ => ?_)
  subst e1 e2
  refine sj_seq (sj_asgM (fun d Z' => ∃ (v x f : Int), d = .int v ∧ WorthOk v ∧ JarOk x f ∧ Z' = [.cell pj (jarD x f), .vers pv cs])
    (ej_op (Pa := fun d Z1 => d = .list (ws.map .int) ∧ Z1 = [.cell pj (jarD x2 f2), .vers pv cs]) (ej_ev (ev_var rfl) ⟨rfl, rfl⟩) fun d Z1 ⟨e1, e2⟩ => by
      subst e1 e2
      exact ej_take (k := 0) (m := (ws.length : Int)) rfl (ej_ev (Ev.cast (ev_lenL (ev_var rfl)) (by rw [List.length_map])) ⟨rfl, rfl⟩) rfl ok2 (by omega) (by omega) fun v x' f' v0 v1 ok' => by
        obtain ⟨j, rfl⟩ := Int.eq_ofNat_of_zero_le v0
        have hj : j < ws.length := by omega
        exact ⟨.int ws[j], rv_ixL (atI_nat (by rw [List.getElem?_map, List.getElem?_eq_getElem hj]; rfl)), _, x', f', rfl, wk _ (List.getElem_mem hj), ok', rfl⟩) fun d Z' ⟨v, x3, f3, e1, hv, ok3, e2⟩ => ?_)
  subst e1 e2
  have hk : k < ds.length := (List.getElem?_eq_some_iff.mp hy).1
  have c1 : cutD (ds.map deedD) none (some (k : Int)) = (ds.take k).map deedD := by rw [cut_take, map_take']
  have c2 : cutD (ds.map deedD) (some ((k + 1 : Nat) : Int)) none = (ds.drop (k + 1)).map deedD := by rw [cut_drop, map_drop']
  refine sj_ret (ej_ev (d := .tuple ((ds.set k ⟨false, y.n, v⟩).map deedD)) (Ev.cast (ev_op (ev_op (ev_slA (ds := ds.map deedD) (hi := some (k : Int)) (ev_var rfl) eo_none (eo_some (ev_var rfl))) (ev_tup (ea_cons (ev_tup (ea_cons ev_str (ea_cons (nm rfl rfl) (ea_cons (ev_var rfl) ea_nil))) (by simp)) ea_nil) (by simp)) (rv_catA (by rw [c1, List.length_map, List.length_take]; show _ + 1 ≤ _; omega))) (ev_slA (ds := ds.map deedD) (lo := some ((k + 1 : Nat) : Int)) (ev_var rfl) (eo_some (Ev.cast (ev_op (d := .int (k : Int)) (ev_var rfl) ev_int rv_add) (congrArg D.int (by omega)))) eo_none) (rv_catA (by rw [c1, c2, List.length_append, List.length_map, List.length_map, List.length_take, List.length_drop]; show _ + 1 + _ ≤ _; omega))) ?_) ⟨pj, pv, x0, f0, x3, f3, ds, ds.set k ⟨false, y.n, v⟩, cs, rfl, rfl, rfl, ok3, rfl, .inr ⟨k, y, v, hy, hw, hv, rfl⟩⟩)
  rw [c1, c2, ← set_cut hy, List.map_append, List.map_append]
  rfl
end
end Tk

set_option Elab.async false
set_option linter.all false
set_option maxRecDepth 100000
set_option maxHeartbeats 4000000
/-! E11: bends keep what the checker may take for granted. -/
namespace Tk
open PySem PySem.Spec PyProof.Rows L2 Dm
theorem dsOf_set {dl : List (Dl Str)} {i : Nat} {d d' : Dl Str} (hd : dl[i]? = some d) (j : Nat) : dsOf (dl.set i d') j = if j = i then d'.ds else dsOf dl j := by
  have hi := (List.getElem?_eq_some_iff.mp hd).1
  unfold dsOf
  by_cases c : j = i
  · subst c
    rw [if_pos rfl, List.getElem?_set_self hi]
    rfl
  · rw [if_neg c, List.getElem?_set_ne (Ne.symm c)]
theorem wn_set {dl : List (Dl Str)} {i : Nat} {d d' : Dl Str} (hd : dl[i]? = some d) (hw : wb d'.ds = wb d.ds) (j : Nat) (n : Str) : wn n (dsOf (dl.set i d') j) = wn n (dsOf dl j) := by
  rw [dsOf_set hd]
  by_cases c : j = i
  · subst c
    rw [if_pos rfl, dsOf_get hd, wn_wb, wn_wb, hw]
  · rw [if_neg c]
theorem allW_set : ∀ {dl : List (Dl Str)} {i : Nat} {d d' : Dl Str}, dl[i]? = some d → wb d'.ds = wb d.ds → allW (dl.set i d') = allW dl
  | [], i, d, d', h, _ => by simp at h
  | x :: l, 0, d, d', h, hw => by
    cases h
    show wb d'.ds ++ allW l = wb x.ds ++ allW l
    rw [hw]
  | x :: l, i + 1, d, d', h, hw => by
    have h : l[i]? = some d := by simpa using h
    show wb x.ds ++ allW (l.set i d') = wb x.ds ++ allW l
    rw [allW_set h hw]
theorem Good.set {dl : List (Dl Str)} {vs : Vr} (G : Good dl vs) {i : Nat} {d d' : Dl Str} (hd : dl[i]? = some d) (ok : DealOk d') (hw : wb d'.ds = wb d.ds) : Good (dl.set i d') vs := by
  refine ⟨by rw [List.length_set]; exact G.n1, by rw [List.length_set]; exact G.n12, fun x hx => ?_, G.kn, G.nm, G.nv, ⟨G.fit.nd, G.fit.no0, fun n => ?_, fun j n => ?_⟩, by rw [allW_set hd hw]; exact G.sum⟩
  · rcases List.mem_or_eq_of_mem_set hx with z | z
    · exact G.dl x z
    · rw [z]
      exact ok
  · rw [List.length_set]
    have e : (fun j => wn n (dsOf (dl.set i d') j)) = fun j => wn n (dsOf dl j) := funext fun j => wn_set hd hw j n
    rw [e]
    exact G.fit.all n
  · rw [wn_set hd hw]
    exact G.fit.own j n
theorem wb_set : ∀ {ds : List (Dd Str)} {k : Nat} {x y : Dd Str}, ds[k]? = some x → x.w = false → y.w = false → wb (ds.set k y) = wb ds
  | [], k, x, y, h, _, _ => by simp at h
  | z :: l, 0, x, y, h, hx, hy => by
    cases h
    unfold wb
    rw [List.set_cons_zero, List.filterMap_cons, List.filterMap_cons, if_neg (by rw [hy]; exact Bool.false_ne_true), if_neg (by rw [hx]; exact Bool.false_ne_true)]
  | z :: l, k + 1, x, y, h, hx, hy => by
    have h : l[k]? = some x := by simpa using h
    have := wb_set h hx hy
    unfold wb at this ⊢
    rw [List.set_cons_succ, List.filterMap_cons, List.filterMap_cons, this]
/-- another time -/
theorem Good.time {dl : List (Dl Str)} {vs : Vr} (G : Good dl vs) {i : Nat} {d : Dl Str} (hd : dl[i]? = some d) {b e : Int} (h0 : 0 ≤ b) (h1 : b < e) (h2 : e ≤ 10 ^ 60) : Good (dl.set i ⟨b, e, d.ds⟩) vs := by
  obtain ⟨_, _, _, o4, o5⟩ := G.dl d (List.mem_of_getElem? hd)
  exact G.set hd ⟨h0, h1, h2, o4, o5⟩ rfl
/-- another read -/
theorem Good.read {dl : List (Dl Str)} {vs : Vr} (G : Good dl vs) {i : Nat} {d : Dl Str} (hd : dl[i]? = some d) {ds : List (Dd Str)} (ho : Ord' d.ds ds) : Good (dl.set i ⟨d.b, d.e, ds⟩) vs := by
  obtain ⟨o1, o2, o3, o4, o5⟩ := G.dl d (List.mem_of_getElem? hd)
  rcases ho with rfl | ⟨k, x, v, hx, hw, hv, rfl⟩
  · exact G.set hd ⟨o1, o2, o3, o4, o5⟩ rfl
  · refine G.set hd ⟨o1, o2, o3, fun y hy => ?_, by rw [List.length_set]; exact o5⟩ (wb_set hx hw rfl)
    rcases List.mem_or_eq_of_mem_set hy with z | z
    · exact o4 y z
    · rw [z]
      exact ⟨(o4 x (List.mem_of_getElem? hx)).1, hv, fun c => nomatch c⟩
theorem sub_no1 {x : Int} {a l : List Int} (h : l.Sublist (x :: a)) (hx : x ∉ l) : l.Sublist a := by
  cases h with
  | cons _ h => exact h
  | cons_cons _ h => exact absurd (.head _) hx
theorem sub_swap {l w1 w2 : List Int} {x y : Int} (h : l.Sublist (w1 ++ x :: y :: w2)) (no : ¬ (x ∈ l ∧ y ∈ l)) : l.Sublist (w1 ++ y :: x :: w2) := by
  obtain ⟨a, b, rfl, ha, hb⟩ := List.sublist_append_iff.mp h
  refine ha.append ?_
  by_cases cx : x ∈ b
  · have cy : y ∉ b := fun z => no ⟨List.mem_append_right _ cx, List.mem_append_right _ z⟩
    cases hb with
    | cons _ h => exact (sub_no1 h cy).trans ((List.sublist_cons_self _ _).trans (List.sublist_cons_self _ _))
    | cons_cons _ h =>
      have := sub_no1 h (fun z => cy (.tail _ z))
      exact ((this.cons_cons x)).trans (List.sublist_cons_self _ _)
  · exact (sub_no1 hb cx).trans ((List.Sublist.cons x (List.Sublist.refl w2)).cons_cons y)
theorem vl_mid {l1 l2 : Vr} {n : Str} {ns : List Int} (hn : ((l1 ++ (n, ns) :: l2).map (·.1)).Nodup) (m : Str) : vlOf (l1 ++ (n, ns) :: l2) m = if m = n then ns else vlOf (l1 ++ l2) m := by
  by_cases c : m = n
  · subst c
    rw [if_pos rfl]
    exact (vlOf_mem hn (p := (m, ns)) (by simp)).2
  · rw [if_neg c]
    unfold vlOf
    rw [List.find?_append, List.find?_cons, decide_eq_false (fun z : n = m => c z.symm), List.find?_append]
theorem swap_perm (w1 w2 : List Int) (x y : Int) : (w1 ++ y :: x :: w2).Perm (w1 ++ x :: y :: w2) := List.Perm.append_left w1 (List.Perm.swap x y w2)
/-- two versions, one behind the other, by two writers, change places -/
theorem Good.swap {dl : List (Dl Str)} {l1 l2 : Vr} {n : Str} {w1 w2 : List Int} {x y : Int} (G : Good dl (l1 ++ (n, w1 ++ x :: y :: w2) :: l2)) (no : ∀ i, Wr dl n x i → ¬ Wr dl n y i) : Good dl (l1 ++ (n, w1 ++ y :: x :: w2) :: l2) := by
  have names : ((l1 ++ (n, w1 ++ y :: x :: w2) :: l2).map (·.1)) = ((l1 ++ (n, w1 ++ x :: y :: w2) :: l2).map (·.1)) := by
    rw [List.map_append, List.map_append]
    rfl
  have kn := G.kn
  have kn' : ((l1 ++ (n, w1 ++ y :: x :: w2) :: l2).map (·.1)).Nodup := by rw [names]; exact kn
  have pm : ∀ m, (vlOf (l1 ++ (n, w1 ++ y :: x :: w2) :: l2) m).Perm (vlOf (l1 ++ (n, w1 ++ x :: y :: w2) :: l2) m) := fun m => by
    rw [vl_mid kn', vl_mid kn]
    by_cases c : m = n
    · rw [if_pos c, if_pos c]
      exact swap_perm _ _ _ _
    · rw [if_neg c, if_neg c]
  refine ⟨G.n1, G.n12, G.dl, kn', fun p hp => ?_, by simpa using G.nv, ⟨fun m => (pm m).nodup_iff.mpr (G.fit.nd m), fun m h => G.fit.no0 m ((pm m).mem_iff.mp h), fun m => (G.fit.all m).trans (pm m).symm, fun i m => ?_⟩, ?_⟩
  · rcases List.mem_append.mp hp with z | z
    · exact G.nm p (List.mem_append_left _ z)
    · rcases List.mem_cons.mp z with z | z
      · subst z
        obtain ⟨a, _, b, c, d⟩ := G.nm (n, w1 ++ x :: y :: w2) (by simp)
        have q := swap_perm w1 w2 x y
        exact ⟨a, by simp, by rw [q.length_eq]; exact b, q.nodup_iff.mpr c, fun v hv => d v (q.mem_iff.mp hv)⟩
      · exact G.nm p (List.mem_append_right _ (.tail _ z))
  · have o := G.fit.own i m
    rw [vl_mid kn] at o
    rw [vl_mid kn']
    by_cases c : m = n
    · subst c
      rw [if_pos rfl] at o ⊢
      refine sub_swap o fun ⟨hx, hy⟩ => ?_
      have hi : i < dl.length := by
        rcases Nat.lt_or_ge i dl.length with z | z
        · exact z
        · have e : dsOf dl i = [] := by
            unfold dsOf
            rw [List.getElem?_eq_none z]
            rfl
          rw [e] at hx
          cases hx
      exact no i ⟨hi, hx⟩ ⟨hi, hy⟩
    · rw [if_neg c] at o ⊢
      exact o
  · rw [← G.sum]
    simp
end Tk

set_option Elab.async false
set_option linter.all false
set_option maxRecDepth 100000
set_option maxHeartbeats 4000000
/-! E12: rules for the bends. -/
namespace Tk
open PySem PySem.Spec PyProof.Rows L2 Dm
section
variable {ρ : Ro} {Z : Zs} {te ta ty : TE} {t : TS} {Φ : PoJ} {i k : Nat} {p : Addr} {K : PySem.W.Frag} {P : List D → Zs → Prop}
theorem sj_permZ {Z' : Zs} (pm : Z'.Perm Z) (h : SwJ t ρ Z' Φ) : SwJ t ρ Z Φ := fun B F H σ en Dn kn kr kb kc => h B F H σ (en.perm pm) Dn kn kr kb kc
theorem ej_sortedV {P : D → Zs → Prop} {cs : Cs} (hi : ρ[i]? = some (.ptr p)) (hk : Z[k]? = some (.vers p cs)) (hl : cs.length < 64) (h : ∀ ys : List Str, ys.Perm (cs.map (·.1)) → P (.list (ys.map .str)) Z) :
    EvJ (tCB (fun xs H Q => ∃ (a : Addr) (kvs : List (Key × V)) (ks : List Str), xs = [.ref a] ∧ Rd H a (.dK kvs) ∧ kvs.map (·.1) = ks.map Sum.inr ∧ ks.length < 64 ∧
      ∀ ys p, ys.Perm ks → sortedS ys = true → H p = none → Q (.ref p) (upd H p (.lst (ys.map V.str)))) (tCons (tVar i) tNil)) ρ Z P := fun B F H σ en Q kk => by
  have v : H p = some (.dK (cs.map fun c => (.inr c.1, V.ref c.2.1))) := (en.z.at_ _ (List.mem_of_getElem? hk)).1
  refine ⟨.ref p, en.e.pt i p hi, p, _, cs.map (·.1), rfl, .inl v, by rw [List.map_map, List.map_map]; rfl, by rw [List.length_map]; exact hl, fun ys q pm _ hq => ?_⟩
  have g := Gw.new (o := .lst (ys.map V.str)) en.e.fh hq
  refine kk _ _ (addF F q) _ Z (h ys pm) (en.gw g) (g.fr en.e.fh) ⟨q, _, rfl, .inr rfl, upd_same, ?_⟩
  have st : ∀ (F : FS) (H : Hp) (l : List Str), Rps F H (l.map .str) (l.map V.str) := fun F H l => by
    induction l with
    | nil => exact rfl
    | cons a r ih => exact ⟨_, _, rfl, rfl, ih⟩
  exact st _ _ _
theorem wj_list (h : EvJ te ρ Z fun d Z' => ∃ ds, d = .list ds ∧ P ds Z') : WjD (iList K te) ρ Z P := fun B F H σ en R k => h B F H σ en _ fun d v F1 H1 Z1 ⟨ds, e, pp⟩ en1 fr1 r1 => by
  subst e
  obtain ⟨a, xs, rfl, fa, ha, r⟩ := r1
  refine ⟨a, rfl, ⟨xs, SqL.of ha⟩, k ds _ F1 H1 Z1 pp en1 fr1 ⟨fun i F2 H2 hi fr => ?_, fun F2 H2 fr => ?_, fun i F2 H2 x H' hi fr hF y => ?_⟩⟩
  · have hi' : i < xs.length := by rw [r.len]; exact hi
    exact ⟨xs, xs[i], SqL.of ((fr.e a fa).trans ha), List.getElem?_eq_getElem hi'⟩
  · exact ⟨xs, SqL.of ((fr.e a fa).trans ha), by rw [r.len]; exact Nat.le_refl _⟩
  · obtain ⟨rfl, y⟩ := y
    have hx := y xs (SqL.of ((fr.e a fa).trans ha))
    obtain ⟨d, hd, rd⟩ := (Rps.mo fr.mo _ _ r).of_get hx
    exact ⟨F2, d, Gw.refl hF, hd, rd⟩
/-- x = versions[name] -/
theorem sj_asgIn {j : Nat} {cs : Cs} {n : Str} {c : Str × Addr × List Int} (hi : ρ[i]? = some (.ptr p)) (hk : Z[k]? = some (.vers p cs)) (hy : Ev ty ρ (.str n)) (hf : cs.find? (fun c => decide (c.1 = n)) = some c) (q : Φ.nx (ρ.set j (.ptr c.2.1)) Z) : SwJ (tAsg (tDGet (tVar i) ty) (gName j)) ρ Z Φ := fun B F H σ en Dn kn kr kb kc =>
  ⟨.ref p, en.e.pt i p hi, hy B F H σ en.e _ fun y F1 H1 g1 r1 => by
    have en1 := en.gw g1
    have r1 : y = .str n := r1
    subst r1
    have v : H1 p = some (.dK (cs.map fun c => (.inr c.1, V.ref c.2.1))) := (en1.z.at_ _ (List.mem_of_getElem? hk)).1
    exact ⟨p, .ref c.2.1, rfl, .inl ⟨_, .inr n, .inl v, rfl, by rw [val_cs, hf]; rfl⟩, kn _ Z F1 H1 _ q (en1.setP j c.2.1) (g1.fr en.e.fh)⟩⟩
theorem putK_cs {l1 l2 : Cs} {n : Str} {a b : Addr} {ns ws : List Int} (hn : ((l1 ++ (n, a, ns) :: l2).map (·.1)).Nodup) :
    putK ((l1 ++ (n, a, ns) :: l2).map fun c : Str × Addr × List Int => ((.inr c.1 : Key), V.ref c.2.1)) (.inr n) (.ref b) = (l1 ++ (n, b, ws) :: l2).map fun c : Str × Addr × List Int => ((.inr c.1 : Key), V.ref c.2.1) := by
  rw [List.map_append, List.map_cons] at hn
  obtain ⟨_, h2, h3⟩ := List.nodup_append.mp hn
  have n1 : ∀ c ∈ l1, ¬ c.1 = n := fun c hc e => h3 c.1 (List.mem_map_of_mem hc) n (.head _) e
  have n2 : ∀ c ∈ l2, ¬ c.1 = n := fun c hc e => (List.nodup_cons.mp h2).1 (List.mem_map.mpr ⟨c, hc, e⟩)
  unfold putK
  have an : (((l1 ++ (n, a, ns) :: l2).map fun c : Str × Addr × List Int => ((.inr c.1 : Key), V.ref c.2.1)).any fun kv => decide (kv.1 = .inr n)) = true := List.any_eq_true.mpr ⟨(.inr n, .ref a), List.mem_map.mpr ⟨(n, a, ns), by simp, rfl⟩, decide_eq_true rfl⟩
  rw [if_pos an, List.map_map, List.map_append, List.map_append, List.map_cons, List.map_cons]
  have same : ∀ l : Cs, (∀ c ∈ l, ¬ c.1 = n) → l.map ((fun kv : Key × V => if kv.1 = .inr n then (kv.1, V.ref b) else kv) ∘ fun c : Str × Addr × List Int => ((.inr c.1 : Key), V.ref c.2.1)) = l.map fun c : Str × Addr × List Int => ((.inr c.1 : Key), V.ref c.2.1) := fun l h => List.map_congr_left fun c hc => by
    show (if (Sum.inr c.1 : Key) = .inr n then ((.inr c.1 : Key), V.ref b) else (.inr c.1, V.ref c.2.1)) = _
    rw [if_neg (fun z => h c hc (Sum.inr.inj z))]
  rw [same l1 n1, same l2 n2]
  show _ ++ (if (Sum.inr n : Key) = .inr n then ((.inr n : Key), V.ref b) else (.inr n, V.ref a)) :: _ = _
  rw [if_pos rfl]
theorem two_perm {α : Type} (p a b : α) (x y r : List α) : (p :: (x ++ b :: y) ++ (a :: r)).Perm (p :: (x ++ a :: y) ++ (b :: r)) := by
  have one : ∀ a b : α, (p :: (x ++ b :: y) ++ (a :: r)).Perm (p :: b :: a :: ((x ++ y) ++ r)) := fun a b => by
    refine List.Perm.cons p ?_
    refine (List.Perm.append_right (a :: r) (List.perm_middle (a := b) (l₁ := x) (l₂ := y))).trans ?_
    exact List.Perm.cons b List.perm_middle
  exact (one a b).trans ((List.Perm.cons p (List.Perm.swap a b _)).trans (one b a).symm)
/-- versions[name] = a new list; the old list stays behind -/
theorem sj_verPut {l1 l2 : Cs} {r : Zs} {n : Str} {a : Addr} {ns ws : List Int} (hi : ρ[i]? = some (.ptr p)) (hz : Z.Perm (.vers p (l1 ++ (n, a, ns) :: l2) :: r)) (hn : ((l1 ++ (n, a, ns) :: l2).map (·.1)).Nodup) (hl : (l1 ++ (n, a, ns) :: l2).length < 10000)
    (hv : EvNJ te ρ Z fun ds Z' => ds = ws.map .int ∧ Z' = Z) (hy : Ev ty ρ (.str n)) (q : ∀ b, ∃ Z', Z'.Perm (.vers p (l1 ++ (n, b, ws) :: l2) :: .cell a (.list (ns.map .int)) :: r) ∧ Φ.nx ρ Z') : SwJ (sDPut (tVar i) ty te) ρ Z Φ := fun B F H σ en Dn kn kr kb kc =>
  hv B F H σ en _ fun ds b F1 H1 Z1 ⟨e1, e2⟩ en1 fr1 => ⟨.ref p, en1.e.pt i p hi, hy B F1 H1 σ en1.e _ fun y F2 H2 g2 r2 => by
    subst e1 e2
    have r2 : y = .str n := r2
    subst r2
    have pm3 : (Res.vers p (l1 ++ (n, a, ns) :: l2) :: .cell b (.list (ws.map .int)) :: r).Perm (Z1 ++ [.cell b (.list (ws.map .int))]) := by
      refine List.Perm.trans ?_ (List.Perm.append_right _ hz.symm)
      refine List.Perm.cons _ ?_
      have c1 : ([Res.cell b (.list (ws.map .int))] ++ r).Perm (r ++ [Res.cell b (.list (ws.map .int))]) := List.perm_append_comm
      exact c1
    have en3 := (en1.gw g2).perm pm3
    have hv : H2 p = some (.dK ((l1 ++ (n, a, ns) :: l2).map fun c : Str × Addr × List Int => ((.inr c.1 : Key), V.ref c.2.1))) ∧ ∀ c ∈ l1 ++ (n, a, ns) :: l2, H2 c.2.1 = some (.lst (c.2.2.map .int)) := en3.z.at_ _ (.head _)
    have hb : MutC F2 H2 (.list (ws.map .int)) b := en3.z.at_ _ (.tail _ (.head _))
    obtain ⟨xs, hb, rx⟩ := hb
    have ex := rx.ints
    subst ex
    have nd := en3.z.nd
    have ead : ∀ a b : Addr, ∀ ns ws : List Int, adrs (Res.vers p (l1 ++ (n, a, ns) :: l2) :: .cell b (.list (ws.map .int)) :: r) = p :: (l1.map (fun c : Str × Addr × List Int => c.2.1) ++ a :: l2.map (fun c : Str × Addr × List Int => c.2.1)) ++ (b :: adrs r) := fun a b ns ws => by
      unfold adrs
      rw [List.flatMap_cons, List.flatMap_cons]
      show (p :: (l1 ++ (n, a, ns) :: l2).map (fun c : Str × Addr × List Int => c.2.1)) ++ ([b] ++ _) = _
      rw [List.map_append]
      rfl
    have ap : (adrs (Res.vers p (l1 ++ (n, b, ws) :: l2) :: .cell a (.list (ns.map .int)) :: r)).Perm (adrs (Res.vers p (l1 ++ (n, a, ns) :: l2) :: .cell b (.list (ws.map .int)) :: r)) := by
      rw [ead, ead]
      exact two_perm _ _ _ _ _ _
    rw [ead] at nd
    have ndp : ∀ x ∈ (l1.map (fun c : Str × Addr × List Int => c.2.1) ++ a :: l2.map (fun c : Str × Addr × List Int => c.2.1)) ++ (b :: adrs r), x ≠ p := fun x hx e => by
      have nd : (p :: ((l1.map (fun c : Str × Addr × List Int => c.2.1) ++ a :: l2.map (fun c : Str × Addr × List Int => c.2.1)) ++ (b :: adrs r))).Nodup := nd
      exact (List.nodup_cons.mp nd).1 (e ▸ hx)
    have pa : a ≠ p := ndp a (by simp)
    have pb : b ≠ p := ndp b (by simp)
    have pl : ∀ c ∈ l1 ++ l2, c.2.1 ≠ p := fun c hc => ndp _ (by
      rcases List.mem_append.mp hc with z | z
      · exact List.mem_append_left _ (List.mem_append_left _ (List.mem_map_of_mem (f := fun c : Str × Addr × List Int => c.2.1) z))
      · exact List.mem_append_left _ (List.mem_append_right _ (.tail _ (List.mem_map_of_mem (f := fun c : Str × Addr × List Int => c.2.1) z))))
    have pr : ∀ x ∈ adrs r, x ≠ p := fun x hx => ndp x (List.mem_append_right _ (.tail _ hx))
    refine ⟨p, _, rfl, .inl ⟨_, .inr n, hv.1, rfl, by rw [List.length_map]; exact big_lt hl, rfl⟩, ?_⟩
    rw [putK_cs (ws := ws) hn]
    have npF : ¬ F2 p := en3.z.nf p (by rw [ead]; exact .head _)
    have mo : Mo F2 H2 F2 (upd H2 p (.dK ((l1 ++ (n, b, ws) :: l2).map fun c : Str × Addr × List Int => ((.inr c.1 : Key), V.ref c.2.1)))) := mo_write npF
    have zo : ZOk F2 (upd H2 p (.dK ((l1 ++ (n, b, ws) :: l2).map fun c : Str × Addr × List Int => ((.inr c.1 : Key), V.ref c.2.1)))) (Res.vers p (l1 ++ (n, b, ws) :: l2) :: .cell a (.list (ns.map .int)) :: r) := by
      refine ⟨fun z hz => ?_, fun x hx => en3.z.nf x (ap.mem_iff.mp hx), ap.nodup_iff.mpr en3.z.nd⟩
      rcases List.mem_cons.mp hz with e | hz
      · rw [e]
        refine ⟨upd_same, fun c hc => ?_⟩
        rcases List.mem_append.mp hc with z | z
        · rw [upd_ne (pl c (List.mem_append_left _ z))]
          exact hv.2 c (List.mem_append_left _ z)
        · rcases List.mem_cons.mp z with z | z
          · rw [z, upd_ne pb]
            exact hb
          · rw [upd_ne (pl c (List.mem_append_right _ z))]
            exact hv.2 c (List.mem_append_right _ (.tail _ z))
      · rcases List.mem_cons.mp hz with e | hz
        · rw [e]
          exact ⟨ns.map V.int, by rw [upd_ne pa]; exact hv.2 (n, a, ns) (by simp), Rps.of_ints _⟩
        · exact Res.to mo (en3.z.at_ z (.tail _ (.tail _ hz))) fun x hx => upd_ne (pr x (List.mem_flatMap.mpr ⟨z, hz, hx⟩))
    obtain ⟨en4, fr4⟩ := en3.zap (F' := F2) (fun _ h => h) (fun x o nx h => by
      rw [upd_ne (fun z => nx (by rw [z, ead]; exact .head _))]
      exact h) (fun _ h => .inl h) (fun x f => by
      by_cases z : x = p
      · rw [z, upd_same]
        exact fun c => nomatch c
      · rw [upd_ne z]
        exact en3.e.fh x f) zo (fun x hx => .inl (ap.mem_iff.mp hx))
    obtain ⟨Z', pz, qq⟩ := q b
    exact kn ρ Z' F2 _ σ qq (en4.perm pz) ((fr1.trans (g2.fr en1.e.fh)).trans fr4)⟩
end
end Tk

set_option Elab.async false
set_option linter.all false
set_option maxRecDepth 100000
set_option maxHeartbeats 4000000
/-! E13: the bends, the walk. -/
namespace Tk
open PySem PySem.Spec PyProof.Rows L2 Dm
section
variable {ρ : Ro} {Z : Zs} {te ta ty : TE} {K : PySem.W.Frag}
theorem ej_slA {P : D → Zs → Prop} {tl th : TO} {lo hi : Option Int} (h : EvJ te ρ Z fun d Z' => ∃ ds, d = .tuple ds ∧ P (.tuple (cutD ds lo hi)) Z') (hl : EvO tl ρ lo) (hh : EvO th ρ hi) : EvJ (tSl (rSlA K) te tl th) ρ Z P := fun B F H σ en Q k =>
  h B F H σ en _ fun d v F1 H1 Z1 ⟨ds, e, pp⟩ en1 fr1 r1 => hl B F1 H1 σ en1.e _ fun F2 H2 g2 => hh B F2 H2 σ (en1.e.gw g2) _ fun F3 H3 g3 => by
    subst e
    have r3 := (r1.gw g2).gw g3
    obtain ⟨a, xs, rfl, fa, ha, r⟩ := r3
    have g := g2.trans g3
    have en3 := en1.gw g
    have fr3 := fr1.trans (g.fr en1.e.fh)
    refine ⟨a, xs, rfl, SqT.of ha, fun c => ?_, fun c p hp => ?_⟩
    · rw [r.len] at c
      refine k _ _ F3 H3 Z1 pp en3 fr3 ?_
      rw [cutD_full c]
      exact ⟨a, xs, rfl, fa, ha, r⟩
    · have gn := Gw.new (o := .tup (cutV xs lo hi)) g3.h hp
      exact k _ _ (addF F3 p) _ Z1 pp (en3.gw gn) (fr3.trans (gn.fr g3.h)) (rp_newT g3.h hp (r.cut lo hi))
end
abbrev zb (pv : Addr) (cs : Cs) (pj : Addr) (x f : Int) (L : Addr) (dl : List (Dl Str)) (G : Zs) : Zs := .vers pv cs :: .cell pj (jarD x f) :: .cell L (.list (dl.map dealD)) :: G
theorem cs_split {cs : Cs} {n : Str} (h : n ∈ cs.map (·.1)) : ∃ l1 a ns l2, cs = l1 ++ (n, a, ns) :: l2 ∧ cs.find? (fun c => decide (c.1 = n)) = some (n, a, ns) := by
  induction cs with
  | nil => cases h
  | cons c cs ih =>
    by_cases e : c.1 = n
    · obtain ⟨c1, c2, c3⟩ := c
      cases e
      exact ⟨[], c2, c3, cs, rfl, by rw [List.find?_cons, decide_eq_true rfl]⟩
    · have h : n ∈ cs.map (·.1) := by
        rcases List.mem_cons.mp h with z | z
        · exact absurd z.symm e
        · exact z
      obtain ⟨l1, a, ns, l2, e1, e2⟩ := ih h
      exact ⟨c :: l1, a, ns, l2, by rw [e1]; rfl, by rw [List.find?_cons, decide_eq_false e, e2]⟩
theorem vr_names (cs : Cs) : (vrOf cs).map (·.1) = cs.map (·.1) := by
  unfold vrOf
  rw [List.map_map]
  rfl
theorem vr_mid (l1 l2 : Cs) (n : Str) (a : Addr) (ns : List Int) : vrOf (l1 ++ (n, a, ns) :: l2) = vrOf l1 ++ (n, ns) :: vrOf l2 := by
  unfold vrOf
  rw [List.map_append]
  rfl
theorem at_split : ∀ {ns : List Int} {k : Nat}, k + 1 < ns.length → ∃ w1 x y w2, ns = w1 ++ x :: y :: w2 ∧ w1.length = k
  | [], k, h => by simp at h
  | [_], k, h => by simp at h
  | x :: y :: r, 0, _ => ⟨[], x, y, r, rfl, rfl⟩
  | z :: r, k + 1, h => by
    obtain ⟨w1, x, y, w2, e, l⟩ := at_split (ns := r) (k := k) (by simpa using h)
    exact ⟨z :: w1, x, y, w2, by rw [e]; rfl, by rw [List.length_cons, l]⟩
theorem Good.few64 {dl : List (Dl Str)} {vs : Vr} (G : Good dl vs) : vs.length < 64 := by
  have a := allW_len G.dl
  have b := G.n12
  have c := G.sum
  have d : vs.length ≤ (vs.map fun p => p.2.length).sum := by
    have nm := G.nm
    clear a b c G
    induction vs with
    | nil => exact Nat.le_refl _
    | cons p r ih =>
      rw [List.map_cons, List.sum_cons, List.length_cons]
      have := ih fun q hq => nm q (.tail _ hq)
      have ne := (nm p (.head _)).2.1
      have : 1 ≤ p.2.length := by
        cases c : p.2 with
        | nil => exact absurd c ne
        | cons a b => exact Nat.succ_pos _
      omega
  omega
section
variable {P : Program} {w : World} {K : PySem.W.Frag} {mg : Str → Option Value} {base : Heap}
abbrev s__law_bent : Stmt := topS 43
theorem sc__law_bent : FnScope ["jar", "some", "versions", "kind", "number", "begin", "name", "worths", "at", "both"] ["jar", "some", "versions"] (defScope s__law_bent) := ⟨rfl, rfl, rfl, by decide +kernel, rfl, by decide +kernel, by decide +kernel⟩
def pBe (es : List A) (Z : Zs) : Prop := ∃ (pj L pv : Addr) (x f : Int) (dl : List (Dl Str)) (cs : Cs), es = [.p pj, .p L, .p pv] ∧ Z = zb pv cs pj x f L dl [] ∧ JarOk x f ∧ Good dl (vrOf cs)
def rBe (es : List A) (Z : Zs) (_ : A) (Z' : Zs) : Prop := ∃ (pj L pv : Addr) (x f x' f' : Int) (dl dl' : List (Dl Str)) (cs cs' : Cs) (G : Zs), es = [.p pj, .p L, .p pv] ∧ Z = zb pv cs pj x f L dl [] ∧ Z' = zb pv cs' pj x' f' L dl' G ∧ JarOk x' f' ∧ Good dl' (vrOf cs') ∧ dl'.length = dl.length ∧
  ∀ a ∈ cs.map (fun c : Str × Addr × List Int => c.2.1), a ∈ cs'.map (fun c : Str × Addr × List Int => c.2.1) ∨ a ∈ adrs G
theorem zb_adrs (pv : Addr) (cs : Cs) (pj : Addr) (x f : Int) (L : Addr) (dl : List (Dl Str)) (G : Zs) : adrs (zb pv cs pj x f L dl G) = pv :: cs.map (fun c : Str × Addr × List Int => c.2.1) ++ ([pj] ++ ([L] ++ adrs G)) := rfl
theorem cal__law_bent (F : DefAt K mg "_law_bent" s__law_bent ["jar", "some", "versions"]) (T : Bt mg) (C__law_take : Cal P w K mg base "_law_take" ["jar", "many"] 2 (CtJ pTk rTk)) (C__law_other_read : Cal P w K mg base "_law_other_read" ["jar", "doings", "versions"] 2 (CtJ pOr rOr)) (C__law_writer : Cal P w K mg base "_law_writer" ["some", "name", "worth"] 2 (Ct pLw rLw)) : Cal P w K mg base "_law_bent" ["jar", "some", "versions"] 3 (CtJ pBe rBe) := by
  refine cal_J F sc__law_bent (fun es Z ⟨_, _, _, _, _, _, _, e, _⟩ => by rw [e]; rfl) (fun es Z r Z' _ h a ha => ?_) (fun f cdv A outer s H E hr => ?_)
  · obtain ⟨pj, L, pv, x, f, x', f', dl, dl', cs, cs', G, e, ez, ez', _, _, _, sub⟩ := h
    rw [ez, zb_adrs] at ha
    rw [ez', zb_adrs]
    rcases List.mem_append.mp ha with z | z
    · rcases List.mem_cons.mp z with z | z
      · rw [z]
        exact .head _
      · rcases sub a z with q | q
        · exact List.mem_append_left _ (.tail _ q)
        · exact List.mem_append_right _ (.tail _ (.tail _ q))
    · rcases List.mem_cons.mp z with z | z
      · exact List.mem_append_right _ (by rw [z]; exact .head _)
      · rcases List.mem_cons.mp z with z | z
        · exact List.mem_append_right _ (by rw [z]; exact .tail _ (.head _))
        · cases z
  have hu := hu_of hr
  refine ⟨_, (pss_cons (ps_set (i := 3) sc__law_bent.nd rfl (.inl rfl) (pe_callC _ C__law_take hr (pa_cons (pv 0) (pa_cons pe_int pa_nil))))
      (pss_cons (ps_set (i := 4) sc__law_bent.nd rfl (.inl rfl) (pe_callC _ C__law_take hr (pa_cons (pv 0) (pa_cons (pe_callB call_len_seq (by rfl) T.len_ PySem.boot_len (pa_cons (pv 1) pa_nil)) pa_nil))))
      (pss_cons (ps_if (pt_cmpR op_eq (pv 3) pe_int (nomark _)) (pss_cons (ps_set (i := 5) sc__law_bent.nd rfl (.inl rfl) (pe_callC _ C__law_take hr (pa_cons (pv 0) (pa_cons pe_int pa_nil))))
      (pss_one (ps_asg (pe_tup (pa_cons (pv 5) (pa_cons (pe_op op_add (pe_op op_add (pv 5) pe_int) (pe_callC _ C__law_take hr (pa_cons (pv 0) (pa_cons pe_int pa_nil)))) (pa_cons (pe_ix ix_tup (pe_ix ix_list (pv 1) (pv 4) (fun _ _ => rfl)) pe_int (fun _ _ => rfl)) pa_nil)))) (pg_sub (pv 1) (pv 4) set_list)))) pss_nil)
      (pss_cons (ps_if (PW.pt (pw_or (pt_cmpR op_eq (pv 3) pe_int (nomark _)) (pw_or1 (pt_cmpR op_eq (pv 3) pe_int (nomark _))))) (pss_one (ps_asg (pe_op op_catA (pe_slice sl_tupA (pe_ix ix_list (pv 1) (pv 4) (fun _ _ => rfl)) po_none (po_some pe_int)) (pe_tup (pa_cons (pe_callC _ C__law_other_read hr (pa_cons (pv 0) (pa_cons (pe_ix ix_tup (pe_ix ix_list (pv 1) (pv 4) (fun _ _ => rfl)) pe_int (fun _ _ => rfl)) (pa_cons (pv 2) pa_nil)))) pa_nil))) (pg_sub (pv 1) (pv 4) set_list))) pss_nil)
      (pss_one (ps_for PassesOwn.never rfl (pi_list (pe_callB (call_sortedD rfl) (by rfl) T.sorted_ (by decide +kernel) (pa_cons (pv 2) pa_nil))) (pg_name (i := 6) sc__law_bent.nd rfl (.inl rfl) (.inl rfl)) (pss_cons (ps_set (i := 7) sc__law_bent.nd rfl (.inl rfl) (pe_dget hu (pv 2) (pv 6) (fun _ _ => rfl)))
      (pss_one (ps_if (PW.pt (pw_and (pt_cmpR op_eq (pv 3) pe_int (nomark _)) (pw_and1 (pt_cmpR op_gt (pe_callB call_len_seq (by rfl) T.len_ PySem.boot_len (pa_cons (pv 7) pa_nil)) pe_int (nomark _))))) (pss_cons (ps_set (i := 8) sc__law_bent.nd rfl (.inl rfl) (pe_callC _ C__law_take hr (pa_cons (pv 0) (pa_cons (pe_op op_sub (pe_callB call_len_seq (by rfl) T.len_ PySem.boot_len (pa_cons (pv 7) pa_nil)) pe_int) pa_nil))))
      (pss_cons (ps_set (i := 9) sc__law_bent.nd rfl (.inl rfl) (pe_slice sl_list (pv 7) (po_some (pv 8)) (po_some (pe_op op_add (pv 8) pe_int))))
      (pss_one (ps_if (pt_cmpR op_ne (pe_callC _ C__law_writer hr (pa_cons (pv 1) (pa_cons (pv 6) (pa_cons (pe_ix ix_list (pv 9) pe_int (fun _ _ => rfl)) pa_nil)))) (pe_callC _ C__law_writer hr (pa_cons (pv 1) (pa_cons (pv 6) (pa_cons (pe_ix ix_list (pv 9) pe_int (fun _ _ => rfl)) pa_nil)))) (nomark _)) (pss_one (ps_dput hu (pv 2) (pv 6) (pe_op op_cat (pe_op op_cat (pe_slice sl_list (pv 7) po_none (po_some (pv 8))) (pe_lst (pa_cons (pe_ix ix_list (pv 9) pe_int (fun _ _ => rfl)) (pa_cons (pe_ix ix_list (pv 9) pe_int (fun _ _ => rfl)) pa_nil)))) (pe_slice sl_list (pv 7) (po_some (pe_op op_add (pv 8) pe_int)) po_none)) rfl)) pss_nil)))) pss_nil))))))))), fun es Z ⟨pj, L, pv, x0, f0, dl, cs, e, ez, ok0, G0⟩ => ?_⟩
  subst e ez
  have n1 := G0.n1
  have n12 := G0.n12
  refine sj_seq (sj_asgM (fun d Z' => ∃ (kd x f : Int), d = .int kd ∧ JarOk x f ∧ Z' = zb pv cs pj x f L dl []) (ej_take (k := 1) (m := 4) rfl (ej_ev ev_int ⟨rfl, rfl⟩) rfl ok0 (by decide) (by decide) fun v x' f' v0 v1 ok' => ⟨v, x', f', rfl, ok', rfl⟩) fun d Z' ⟨kd, x1, f1, e1, ok1, e2⟩ => ?_)
  subst e1 e2
  refine sj_seq (sj_asgM (fun d Z' => ∃ (nr : Nat) (x f : Int), d = .int (nr : Int) ∧ nr < dl.length ∧ JarOk x f ∧ Z' = zb pv cs pj x f L dl []) (ej_take (k := 1) (m := (dl.length : Int)) rfl (ej_frz (d := .int (dl.length : Int)) (ρ' := [.ptr pj, .im (.list (dl.map dealD)), .ptr pv, .im (.int kd), .no, .no, .no, .no, .no, .no]) ⟨.same _, .cell (.tail _ (.tail _ (.head _))), .same _, .same _, .same _, .same _, .same _, .same _, .same _, .same _, True.intro⟩ (Ev.cast (ev_lenL (ev_var rfl)) (by rw [List.length_map])) rfl ⟨rfl, rfl⟩) rfl ok1 (by omega) (by omega) fun v x' f' v0 v1 ok' => by
    obtain ⟨nr, rfl⟩ := Int.eq_ofNat_of_zero_le v0
    exact ⟨nr, x', f', rfl, by omega, ok', rfl⟩) fun d Z' ⟨nr, x2, f2, e1, hnr, ok2, e2⟩ => ?_)
  subst e1 e2
  have dat : ∀ {dl' : List (Dl Str)} {x f : Int} {e5 : Ent} {d : Dl Str}, dl'[nr]? = some d → ∀ {P : D → Zs → Prop}, P (dealD d) (zb pv cs pj x f L dl' []) → EvJ (tOp (rIxL K) (tVar 1) (tVar 4)) [.ptr pj, .ptr L, .ptr pv, .im (.int kd), .im (.int (nr : Int)), e5, .no, .no, .no, .no] (zb pv cs pj x f L dl' []) P := fun {dl' x f e5 d} hd {P} pp =>
    ej_ixC (k := 2) (p := L) (ds := dl'.map dealD) rfl rfl (ej_ev (ev_var rfl) ⟨nr, dealD d, rfl, rfl, atI_nat (by rw [List.getElem?_map, hd]; rfl), pp⟩)
  have dat2 : ∀ {dl' : List (Dl Str)} {x f : Int} {e5 : Ent} {d : Dl Str}, dl'[nr]? = some d → ∀ {P : D → Zs → Prop}, P (.tuple (d.ds.map deedD)) (zb pv cs pj x f L dl' []) → EvJ (tOp (rIxT K) (tOp (rIxL K) (tVar 1) (tVar 4)) (tC (.int 2))) [.ptr pj, .ptr L, .ptr pv, .im (.int kd), .im (.int (nr : Int)), e5, .no, .no, .no, .no] (zb pv cs pj x f L dl' []) P := fun {dl' x f e5 d} hd {P} pp =>
    ej_op (Pa := fun e Z' => e = dealD d ∧ Z' = zb pv cs pj x f L dl' []) (dat hd ⟨rfl, rfl⟩) fun e Z1 ⟨e1, e2⟩ => by
      subst e1 e2
      exact ej_ev ev_int ⟨.tuple (d.ds.map deedD), rv_ixT (atI_nat (j := 2) rfl), pp⟩
  -- another time
  refine sj_mid (fun ρ Z => ∃ (x f : Int) (dl' : List (Dl Str)) (e5 : Ent), JarOk x f ∧ Good dl' (vrOf cs) ∧ dl'.length = dl.length ∧ ρ = [.ptr pj, .ptr L, .ptr pv, .im (.int kd), .im (.int (nr : Int)), e5, .no, .no, .no, .no] ∧ Z = zb pv cs pj x f L dl' [])
    (sj_if (P := fun _ Z' => Z' = zb pv cs pj x2 f2 L dl []) (et_ofT (et_test (ev_op (ev_var rfl) ev_int rv_eqI)) rfl) (fun Z1 e => ?_) (fun Z1 e => sj_next ⟨x2, f2, dl, .no, ok2, G0, rfl, rfl, e⟩)) fun ρ Z ⟨x3, f3, dl3, e5, ok3, G3, ld3, er, ez⟩ => ?_
  · subst e
    have hd : dl[nr]? = some dl[nr] := List.getElem?_eq_getElem hnr
    refine sj_seq (sj_asgM (fun d Z' => ∃ (b x f : Int), d = .int b ∧ 0 ≤ b ∧ b < 130 ∧ JarOk x f ∧ Z' = zb pv cs pj x f L dl []) (ej_take (k := 1) (m := 130) rfl (ej_ev ev_int ⟨rfl, rfl⟩) rfl ok2 (by decide) (by decide) fun v x' f' v0 v1 ok' => ⟨v, x', f', rfl, v0, v1, ok', rfl⟩) fun d Z' ⟨b, x3, f3, e1, b0, b1, ok3, e2⟩ => ?_)
    subst e1 e2
    refine sj_setIx (j := nr) (p := L) rfl (ej_tup (ea_d (Pa := fun d Z1 => d = .int b ∧ Z1 = _) (ej_ev (ev_var rfl) ⟨rfl, rfl⟩) fun d Z1 ⟨e1, e2⟩ => ?_))
    subst e1 e2
    refine ea_d (Pa := fun d Z' => ∃ (u x f : Int), d = .int (b + 1 + u) ∧ 0 ≤ u ∧ u < 12 ∧ JarOk x f ∧ Z' = zb pv cs pj x f L dl []) (ej_op (Pa := fun d Z1 => d = .int (b + 1) ∧ Z1 = _) (ej_ev (ev_op (ev_var rfl) ev_int rv_add) ⟨rfl, rfl⟩) fun d Z1 ⟨e1, e2⟩ => by
      subst e1 e2
      exact ej_take (k := 1) (m := 12) rfl (ej_ev ev_int ⟨rfl, rfl⟩) rfl ok3 (by decide) (by decide) fun v x' f' v0 v1 ok' => ⟨.int (b + 1 + v), rv_add, v, x', f', rfl, v0, v1, ok', rfl⟩) fun d Z1 ⟨u, x4, f4, e1, u0, u1, ok4, e2⟩ => ?_
    subst e1 e2
    refine ea_d (Pa := fun d Z1 => d = .tuple (dl[nr].ds.map deedD) ∧ Z1 = _) (dat2 hd ⟨rfl, rfl⟩) fun d Z1 ⟨e1, e2⟩ => ?_
    subst e1 e2
    refine ea_nilJ ⟨[.int b, .int (b + 1 + u), .tuple (dl[nr].ds.map deedD)], rfl, by simp, ej_ev (ev_var rfl) ⟨2, dl.map dealD, rfl, rfl, by rw [List.length_map]; exact hnr, x4, f4, dl.set nr ⟨b, b + 1 + u, dl[nr].ds⟩, .im (.int b), ok4, G0.time hd b0 (by omega) (by omega), List.length_set, rfl, ?_⟩⟩
    show _ :: _ :: Res.cell L (.list ((dl.map dealD).set nr (dealD ⟨b, b + 1 + u, dl[nr].ds⟩))) :: [] = _
    rw [← List.map_set]
  subst er ez
  have hnr3 : nr < dl3.length := by omega
  -- another read
  refine sj_mid (fun ρ Z => ∃ (x f : Int) (dl' : List (Dl Str)), JarOk x f ∧ Good dl' (vrOf cs) ∧ dl'.length = dl.length ∧ ρ = [.ptr pj, .ptr L, .ptr pv, .im (.int kd), .im (.int (nr : Int)), e5, .no, .no, .no, .no] ∧ Z = zb pv cs pj x f L dl' [])
    (sj_if (P := fun _ Z' => Z' = zb pv cs pj x3 f3 L dl3 []) (et_ofT (et_or (et_test (ev_op (ev_var rfl) ev_int rv_eqI)) (fun _ => et_test (ev_op (ev_var rfl) ev_int rv_eqI))) rfl) (fun Z1 e => ?_) (fun Z1 e => sj_next ⟨x3, f3, dl3, ok3, G3, ld3, rfl, e⟩)) fun ρ Z ⟨x4, f4, dl4, ok4, G4, ld4, er, ez⟩ => ?_
  · subst e
    have hd : dl3[nr]? = some dl3[nr] := List.getElem?_eq_getElem hnr3
    have d4 := (G3.dl _ (List.getElem_mem hnr3)).2.2.2.2
    refine sj_setIx (j := nr) (p := L) rfl (ej_op (Pa := fun d Z1 => d = .tuple [.int dl3[nr].b, .int dl3[nr].e] ∧ Z1 = zb pv cs pj x3 f3 L dl3 []) (ej_slA (dat hd ⟨_, rfl, ?_, rfl⟩) eo_none (eo_some (i := ((2 : Nat) : Int)) ev_int)) fun d Z1 ⟨e1, e2⟩ => ?_)
    · rw [cut_take]
      rfl
    subst e1 e2
    refine ej_tup (ea_d (Pa := fun d Z' => ∃ (x f : Int) (ds : List (Dd Str)), d = .tuple (ds.map deedD) ∧ Ord' dl3[nr].ds ds ∧ JarOk x f ∧ Z' = zb pv cs pj x f L dl3 []) (ej_call (Pa := fun es Z1 => es = [.p pj, .d (.tuple (dl3[nr].ds.map deedD)), .p pv] ∧ Z1 = zb pv cs pj x3 f3 L dl3 []) (ea_p rfl (ea_d (Pa := fun d Z1 => d = .tuple (dl3[nr].ds.map deedD) ∧ Z1 = zb pv cs pj x3 f3 L dl3 []) (dat2 hd ⟨rfl, rfl⟩) fun d Z1 ⟨e1, e2⟩ => by
      subst e1 e2
      exact ea_p rfl (ea_nilJ ⟨rfl, rfl⟩))) fun es Z1 ⟨e1, e2⟩ => by
      subst e1 e2
      refine ⟨[.cell pj (jarD x3 f3), .vers pv cs], [.cell L (.list (dl3.map dealD))], List.Perm.swap _ _ _, ⟨pj, pv, x3, f3, dl3[nr].ds, cs, rfl, rfl, ok3, d4, G3.nm⟩, fun r Z' ⟨pj', pv', x, f, x', f', ds, ds', cs', e, ez, ez', ok', er, ho⟩ => ?_⟩
      injection e with q1 e
      injection q1 with q1
      injection e with q2 e
      injection q2 with q2
      injection q2 with q2
      injection e with q3 _
      injection q3 with q3
      have q2 := map_inj' (fun x y => deedD_inj) q2
      injection ez with _ ez
      injection ez with q4 _
      injection q4 with _ q4
      subst q1 q2 q3 q4 ez'
      exact ⟨_, zb pv cs pj x' f' L dl3 [], er, List.Perm.swap _ _ _, x', f', ds', rfl, ho, ok', rfl⟩) fun d Z1 ⟨x, f, ds, e1, ho, ok, e2⟩ => ?_)
    subst e1 e2
    refine ea_nilJ ⟨[.tuple (ds.map deedD)], rfl, by simp, .tuple [.int dl3[nr].b, .int dl3[nr].e, .tuple (ds.map deedD)], rv_catA (by simp), ej_ev (ev_var rfl) ⟨2, dl3.map dealD, rfl, rfl, by rw [List.length_map]; exact hnr3, x, f, dl3.set nr ⟨dl3[nr].b, dl3[nr].e, ds⟩, ok, G3.read hd ho, by rw [List.length_set]; exact ld3, rfl, ?_⟩⟩
    show _ :: _ :: Res.cell L (.list ((dl3.map dealD).set nr (dealD ⟨dl3[nr].b, dl3[nr].e, ds⟩))) :: [] = _
    rw [← List.map_set]
  subst er ez
  have few := G4.few64
  have lcs : cs.length = (vrOf cs).length := (List.length_map _).symm
  refine sj_for [6, 7, 8, 9] (P := fun ds Z' => ∃ ys : List Str, ds = ys.map .str ∧ (∀ n ∈ ys, n ∈ cs.map (·.1)) ∧ Z' = zb pv cs pj x4 f4 L dl4 []) (wj_list (ej_sortedV (k := 0) (p := pv) (cs := cs) rfl rfl (by omega) fun ys pm => ⟨_, rfl, ys, rfl, fun n hn => pm.mem_iff.mp hn, rfl⟩)) fun ds Z1 ⟨ys, e1, hys, e2⟩ => ?_
  subst e1 e2
  refine ⟨fun i ρ Z => ∃ (x f : Int) (cs' : Cs) (G : Zs), JarOk x f ∧ Good dl4 (vrOf cs') ∧ cs'.map (·.1) = cs.map (·.1) ∧ (∀ a ∈ cs.map (fun c : Str × Addr × List Int => c.2.1), a ∈ cs'.map (fun c : Str × Addr × List Int => c.2.1) ∨ a ∈ adrs G) ∧
    ρ = [.ptr pj, .ptr L, .ptr pv, .im (.int kd), .im (.int (nr : Int)), e5, .no, .no, .no, .no] ∧ Z = zb pv cs' pj x f L dl4 G,
    ⟨x4, f4, cs, [], ok4, G4, rfl, fun _ h => .inl h, rfl, rfl⟩, fun i d ρ Z hd ⟨x, f, cs', G, ok, GG, nms, sub, er, ez⟩ => ⟨_, tj_name, ?_⟩, fun ρ Z ⟨x, f, cs', G, ok, GG, nms, sub, er, ez⟩ => ?_⟩
  · subst er ez
    rw [List.getElem?_map] at hd
    obtain ⟨n, hn, rfl⟩ := Option.map_eq_some_iff.mp hd
    have hn' : n ∈ cs'.map (·.1) := by rw [nms]; exact hys n (List.mem_of_getElem? hn)
    obtain ⟨l1, a, ns, l2, ec, hf⟩ := cs_split hn'
    subst ec
    rw [vr_mid] at GG
    have nmn := GG.nm (n, ns) (by simp)
    have hlen : ns.length ≤ 100 := nmn.2.2.1
    refine sj_seq (sj_asgIn (j := 7) (k := 0) (p := pv) (cs := l1 ++ (n, a, ns) :: l2) (n := n) rfl rfl (ev_var rfl) hf ?_)
    have fz : ∀ {x f : Int} {e8 e9 : Ent}, FrzL (zb pv (l1 ++ (n, a, ns) :: l2) pj x f L dl4 G) [.ptr pj, .ptr L, .ptr pv, .im (.int kd), .im (.int (nr : Int)), e5, .im (.str n), .ptr a, e8, e9] [.ptr pj, .im (.list (dl4.map dealD)), .ptr pv, .im (.int kd), .im (.int (nr : Int)), e5, .im (.str n), .im (.list (ns.map .int)), e8, e9] :=
      ⟨.same _, .cell (.tail _ (.tail _ (.head _))), .same _, .same _, .same _, .same _, .same _, .inner (n := n) (.head _) (by simp), .same _, .same _, True.intro⟩
    refine sj_if (P := fun b Z' => (b = true → 1 < ns.length) ∧ Z' = zb pv (l1 ++ (n, a, ns) :: l2) pj x f L dl4 G) (et_frz fz (et_and (a := decide (kd = 3)) (b := decide ((1 : Int) < (ns.length : Int))) (et_test (ev_op (ev_var rfl) ev_int rv_eqI)) (fun _ => et_test (ev_op (Ev.cast (ev_lenL (ev_var rfl)) (by rw [List.length_map])) ev_int rv_gt))) ⟨fun h => ?_, rfl⟩) (fun Z1 ⟨hb, e⟩ => ?_) (fun Z1 ⟨_, e⟩ => sj_next ?_)
    · have := (Bool.and_eq_true _ _ ▸ h).2
      have := of_decide_eq_true this
      omega
    · subst e
      have h1 := hb rfl
      refine sj_seq (sj_asgM (fun d Z' => ∃ (k : Nat) (x f : Int), d = .int (k : Int) ∧ k + 1 < ns.length ∧ JarOk x f ∧ Z' = zb pv (l1 ++ (n, a, ns) :: l2) pj x f L dl4 G) (ej_take (k := 1) (m := (ns.length : Int) - 1) rfl (ej_frz (d := .int ((ns.length : Int) - 1)) fz (ev_op (Ev.cast (ev_lenL (ev_var rfl)) (by rw [List.length_map])) ev_int rv_sub) rfl ⟨rfl, rfl⟩) rfl ok (by omega) (by omega) fun v x' f' v0 v1 ok' => by
        obtain ⟨k, rfl⟩ := Int.eq_ofNat_of_zero_le v0
        exact ⟨k, x', f', rfl, by omega, ok', rfl⟩) fun d Z' ⟨k, x5, f5, e1, hk, ok5, e2⟩ => ?_)
      subst e1 e2
      obtain ⟨w1, u, v, w2, ens, lw⟩ := at_split hk
      subst ens lw
      have cut2 : cutD ((w1 ++ u :: v :: w2).map D.int) (some (w1.length : Int)) (some ((w1.length + 2 : Nat) : Int)) = [.int u, .int v] := by
        rw [cut_both (by rw [List.length_map]; omega), map_drop', List.drop_left, Nat.add_sub_cancel_left]
        rfl
      have p2 : ∀ {ρ : Ro}, ρ[8]? = some (.im (.int (w1.length : Int))) → Ev (tOp (rI0 fun i j => .int (i + j)) (tVar 8) (tC (.int 2))) ρ (.int ((w1.length + 2 : Nat) : Int)) := fun h => Ev.cast (ev_op (ev_var h) ev_int rv_add) (congrArg D.int (by omega))
      refine sj_seq (sj_asgM (fun d Z' => d = .list [.int u, .int v] ∧ Z' = zb pv (l1 ++ (n, a, w1 ++ u :: v :: w2) :: l2) pj x5 f5 L dl4 G) (ej_to (EvNJ.ev (en_frz (ds := [.int u, .int v]) (P := fun ds Z' => ds = [.int u, .int v] ∧ Z' = zb pv (l1 ++ (n, a, w1 ++ u :: v :: w2) :: l2) pj x5 f5 L dl4 G) fz (EvN.cast (en_slL (ev_var rfl) (eo_some (ev_var rfl)) (eo_some (p2 rfl))) (congrArg D.list cut2)) (fun d hd => by
        rcases List.mem_cons.mp hd with z | z
        · rw [z]; rfl
        · rw [List.mem_singleton.mp z]; rfl) ⟨rfl, rfl⟩)) fun d Z' ⟨ds, e1, e2, e3⟩ => ⟨by rw [e1, e2], e3⟩) fun d Z' ⟨e1, e2⟩ => ?_)
      subst e1 e2
      have vn : vlOf (vrOf l1 ++ (n, w1 ++ u :: v :: w2) :: vrOf l2) n = w1 ++ u :: v :: w2 := by rw [vl_mid GG.kn, if_pos rfl]
      obtain ⟨iu, hu'⟩ := GG.fit.wr (n := n) (v := u) (by rw [vn]; simp)
      obtain ⟨iv, hv'⟩ := GG.fit.wr (n := n) (v := v) (by rw [vn]; simp)
      have nok : ∀ d ∈ dl4, ∀ y ∈ d.ds, NameOk y.n := fun d hd y hy => ((GG.dl d hd).2.2.2.1 y hy).1
      have l12 := GG.n12
      have call : ∀ {ρ : Ro} {tv : TE} {E : XK} {z : Int} {i : Nat}, ρ[1]? = some (.im (.list (dl4.map dealD))) → ρ[6]? = some (.im (.str n)) → Ev tv ρ (.int z) → Wr dl4 n z i → Ev (tCall (Ct pLw rLw) [] E (tCons (tVar 1) (tCons (tVar 6) (tCons tv tNil)))) ρ (.int (i : Int)) := fun {ρ tv E z i} h1 h6 hz hi =>
        ev_call (ea_cons (ev_var h1) (ea_cons (ev_var h6) (ea_cons hz ea_nil))) ⟨dl4, n, z, rfl, by omega, nmn.1, nok⟩ fun d' ⟨dl', n', z', e, h⟩ => by
          injection e with q1 e
          injection q1 with q1
          injection e with q2 e
          injection q2 with q2
          injection e with q3 _
          injection q3 with q3
          have q1 := map_inj' (fun x y => dealD_inj) q1
          subst q1 q2 q3
          rcases h with ⟨j, e, hj⟩ | ⟨_, no⟩
          · rw [e, GG.fit.one hj hi]
          · exact absurd hi (no i)
      have b0 : ∀ {ρ : Ro}, ρ[9]? = some (.im (.list [.int u, .int v])) → Ev (tOp (rIxL K) (tVar 9) (tC (.int 0))) ρ (.int u) := fun h => ev_op (ev_var h) ev_int (rv_ixL (atI_nat (j := 0) rfl))
      have b1 : ∀ {ρ : Ro}, ρ[9]? = some (.im (.list [.int u, .int v])) → Ev (tOp (rIxL K) (tVar 9) (tC (.int 1))) ρ (.int v) := fun h => ev_op (ev_var h) ev_int (rv_ixL (atI_nat (j := 1) rfl))
      refine sj_if (P := fun b Z' => (b = true → iu ≠ iv) ∧ Z' = zb pv (l1 ++ (n, a, w1 ++ u :: v :: w2) :: l2) pj x5 f5 L dl4 G) (et_frz fz (et_test (b := !decide ((iu : Int) = (iv : Int))) (ev_op (call rfl rfl (b0 rfl) hu') (call rfl rfl (b1 rfl) hv') rv_neI)) ⟨fun h e => ?_, rfl⟩) (fun Z1 ⟨hb, e⟩ => ?_) (fun Z1 ⟨_, e⟩ => sj_next ?_)
      · rw [e] at h
        simp at h
      · subst e
        have ne := hb rfl
        have kn : ((l1 ++ (n, a, w1 ++ u :: v :: w2) :: l2).map (·.1)).Nodup := by
          have := GG.kn
          rw [← vr_mid l1 l2 n a, vr_names] at this
          exact this
        have ll : (l1 ++ (n, a, w1 ++ u :: v :: w2) :: l2).length < 10000 := by
          have e1 : (l1 ++ (n, a, w1 ++ u :: v :: w2) :: l2).length = cs.length := by
            have := congrArg List.length nms
            rwa [List.length_map, List.length_map] at this
          omega
        have tk : cutD ((w1 ++ u :: v :: w2).map D.int) none (some (w1.length : Int)) = w1.map .int := by
          rw [cut_take, map_take', List.take_left]
        have dr : cutD ((w1 ++ u :: v :: w2).map D.int) (some ((w1.length + 2 : Nat) : Int)) none = w2.map .int := by
          rw [cut_drop, map_drop', ← List.drop_drop, List.drop_left]
          rfl
        have wl : w1.length + w2.length ≤ 100 := by
          have h := hlen
          rw [List.length_append, List.length_cons, List.length_cons] at h
          omega
        refine sj_verPut (p := pv) (l1 := l1) (l2 := l2) (n := n) (a := a) (ns := w1 ++ u :: v :: w2) (ws := w1 ++ v :: u :: w2) (r := .cell pj (jarD x5 f5) :: .cell L (.list (dl4.map dealD)) :: G) rfl (List.Perm.refl _) kn ll
          (en_frz (ds := (w1 ++ v :: u :: w2).map .int) fz (EvN.cast (en_cat (ds := w1.map .int ++ [.int v, .int u]) (es := w2.map .int) (EvN.ev (en_cat (ds := w1.map .int) (es := [.int v, .int u]) (EvN.ev (EvN.cast (en_slL (ev_var rfl) eo_none (eo_some (ev_var rfl))) (congrArg D.list tk))) (EvN.ev (en_lst (ea_cons (b1 rfl) (ea_cons (b0 rfl) ea_nil)) (by simp))) (by rw [List.length_map]; show _ + 2 ≤ _; omega))) (EvN.ev (EvN.cast (en_slL (ev_var rfl) (eo_some (p2 rfl)) eo_none) (congrArg D.list dr))) (by rw [List.length_append, List.length_map, List.length_map]; show _ + 2 + _ ≤ _; omega)) (by rw [List.map_append, List.append_assoc]; rfl)) (fun d hd => by
            obtain ⟨z, _, rfl⟩ := List.mem_map.mp hd
            rfl) ⟨rfl, rfl⟩) (ev_var rfl) fun b => ?_
        refine ⟨zb pv (l1 ++ (n, b, w1 ++ v :: u :: w2) :: l2) pj x5 f5 L dl4 (.cell a (.list ((w1 ++ u :: v :: w2).map .int)) :: G), ?_, x5, f5, l1 ++ (n, b, w1 ++ v :: u :: w2) :: l2, .cell a (.list ((w1 ++ u :: v :: w2).map .int)) :: G, ok5, ?_, ?_, fun q hq => ?_, rfl, rfl⟩
        · refine List.Perm.cons _ ?_
          refine (List.Perm.cons _ (List.Perm.swap _ _ _)).trans ?_
          exact List.Perm.swap _ _ _
        · rw [vr_mid]
          exact GG.swap fun i hi hj => ne ((GG.fit.one hu' hi).trans (GG.fit.one hj hv'))
        · rw [← nms, List.map_append, List.map_append]
          rfl
        · rcases sub q hq with z | z
          · rw [List.map_append] at z ⊢
            rcases List.mem_append.mp z with z | z
            · exact .inl (List.mem_append_left _ z)
            · rcases List.mem_cons.mp z with z | z
              · exact .inr (by rw [z]; exact .head _)
              · exact .inl (List.mem_append_right _ (.tail _ z))
          · exact .inr (.tail _ z)
      · exact ⟨x5, f5, _, G, ok5, by rw [vr_mid]; exact GG, nms, sub, rfl, e⟩
    · exact ⟨x, f, _, G, ok, by rw [vr_mid]; exact GG, nms, sub, rfl, e⟩
  · subst er ez
    exact ⟨pj, L, pv, x0, f0, x, f, dl, dl4, cs, cs', G, rfl, rfl, rfl, ok, GG, ld4, sub⟩
end
end Tk

set_option Elab.async false
set_option linter.all false
set_option maxRecDepth 100000
set_option maxHeartbeats 4000000
/-! E14: dict == dict. -/
namespace Tk
open PySem PySem.Spec PyProof.Rows L2 Dm
def EqDs (K : PySem.W.Frag) (H : Hp) (ls : List (Key × V)) (e : Key × V → Bool) (p : Key × V) : Prop := ∀ u, valV ls p.1 = some u → ∃ a1 b1 d d', p.2 = .ref a1 ∧ u = .ref b1 ∧ a1 ≠ b1 ∧ Dp K H p.2 d ∧ Dp K H u d' ∧ SeqAt.shaped d = true ∧ SeqAt.shaped d' = true ∧ e p = PyData.eqv d d'
/-- a == b, two dicts, their values lists -/
def rEqDD (K : PySem.W.Frag) : R2 := fun x y H Q => ∃ a b ks ls, x = .ref a ∧ y = .ref b ∧ H a = some (.dK ks) ∧ H b = some (.dK ls) ∧ ∃ e : Key × V → Bool, (∀ p ∈ ks, EqDs K H ls e p) ∧ Q (.bl (decide (ks.length = ls.length) && ks.all fun p => (valV ls p.1).isSome && e p)) H
section
variable {X : Cx} {pins : List (Addr × Obj)} {σ : L2.St} {H : Hp} {s : Shared}
theorem hits_both (I : Inv X pins σ H s) {A : Around} (hu : A.units + 64 < cLine) {ls : List (Key × V)} {vb : List (Key × Value)} (rb : KV ls vb) {e : Key × V → Bool} {ks : List (Key × V)} {va : List (Key × Value)} (ra : KV ks va) :
    (∀ p ∈ ks, EqDs X.K H ls e p) → PySem.W.KeqHitsP X.prog X.w A s vb va (ks.all fun p => (valV ls p.1).isSome && e p) := by
  unfold KV at ra
  induction ra with
  | nil => intro _; exact .nil
  | @cons p q ps qs h t k =>
    intro hp
    obtain ⟨h1, h2⟩ := h
    obtain ⟨key, v⟩ := q
    have h1' : p.1 = key := h1
    have rr := rb.val p.1
    have tl := k fun p' hm => hp p' (List.mem_cons_of_mem _ hm)
    rw [List.all_cons]
    cases c : valV ls p.1 with
    | none =>
      rw [c] at rr
      have hn : valueAt vb p.1 = none := by
        cases c2 : valueAt vb p.1 with
        | none => rfl
        | some z => rw [c2] at rr; exact rr.elim
      rw [h1'] at hn
      exact .miss hn
    | some u =>
      rw [c] at rr
      obtain ⟨y, hy, ry⟩ := rr.some_of
      rw [h1'] at hy
      obtain ⟨a1, b1, d, d', e1, e2, ne, hd, hd', sd, sd', ee⟩ := hp p List.mem_cons_self u c
      refine .hit hy ?_ tl
      rw [ee]
      obtain ⟨as, r1⟩ := Dp.reads I d p.2 v hd h2
      obtain ⟨bs, r2⟩ := Dp.reads I d' u y hd' ry
      rw [e1] at h2
      rw [e2] at ry
      cases (show v = Value.ref a1 from h2)
      cases (show y = Value.ref b1 from ry)
      exact SeqAt.eqP_refs ne fun E Q q => SeqAt.compareEq_shaped r1 r2 sd sd' hu q
end
section
variable {X : Cx}
theorem op_eqDD (hu : X.A.units + 65 < cLine) : OpR X (compareOp .Eq) (rEqDD X.K) := by
  intro pins s σ H x y v u Q I rx ry h
  obtain ⟨a, b, ks, ls, rfl, rfl, ha, hb, e, he, q⟩ := h
  cases (show v = Value.ref a from rx)
  cases (show u = Value.ref b from ry)
  obtain ⟨_, ya, va, ra, da⟩ := (show ObjOk X.prog X.w H s.heap a (.dK ks) from I.hok a _ ha)
  obtain ⟨_, yb, vb, rb, db⟩ := (show ObjOk X.prog X.w H s.heap b (.dK ls) from I.hok b _ hb)
  refine PySem.W.rcP_dicts (knd := mixKind X.prog X.w) (r := ks.all fun p => (valV ls p.1).isSome && e p) ya yb da db (by omega) (fun _ => hits_both I (A := X.A.in1) (by show X.A.units + 1 + 64 < cLine; omega) rb ra he) _ _ ?_
  refine ⟨.bl _, H, I, ?_, q⟩
  have e1 : va.length = ks.length := ra.length.symm
  have e2 : vb.length = ls.length := rb.length.symm
  rw [e1, e2]
  show Value.bool _ = Value.bool _
  congr 2
end
end Tk

set_option Elab.async false
set_option linter.all false
set_option maxRecDepth 100000
set_option maxHeartbeats 4000000
/-! E15: the risen versions against the versions. -/
namespace Tk
open PySem PySem.Spec PyProof.Rows L2 Dm
def sameV (xs bs : Vr) : Bool := decide (xs.length = bs.length) && xs.all fun p => (bs.find? fun q => decide (q.1 = p.1)).isSome && decide (vlOf xs p.1 = vlOf bs p.1)
theorem find_iff {bs : Vr} {n : Str} : (bs.find? fun q => decide (q.1 = n)).isSome = true ↔ n ∈ bs.map (·.1) := by
  rw [List.find?_isSome]
  constructor
  · rintro ⟨q, hq, e⟩
    exact List.mem_map.mpr ⟨q, hq, of_decide_eq_true e⟩
  · intro h
    obtain ⟨q, hq, e⟩ := List.mem_map.mp h
    exact ⟨q, hq, decide_eq_true e⟩
theorem vl_none {bs : Vr} {n : Str} (h : n ∉ bs.map (·.1)) : vlOf bs n = [] := by
  unfold vlOf
  cases c : bs.find? fun q => decide (q.1 = n) with
  | none => rfl
  | some q => exact absurd (find_iff.mp (by rw [c]; rfl)) h
theorem vl_some {bs : Vr} (nb : (bs.map (·.1)).Nodup) (eb : ∀ p ∈ bs, p.2 ≠ []) {n : Str} (h : n ∈ bs.map (·.1)) : vlOf bs n ≠ [] := by
  obtain ⟨q, hq, rfl⟩ := List.mem_map.mp h
  rw [(vlOf_mem nb hq).2]
  exact eb q hq
theorem nodup_len : ∀ {l m : List Str}, l.Nodup → (∀ x ∈ l, x ∈ m) → l.length ≤ m.length
  | [], _, _, _ => Nat.zero_le _
  | x :: l, m, nd, h => by
    obtain ⟨n1, n2⟩ := List.nodup_cons.mp nd
    have hx := h x (.head _)
    have := nodup_len (l := l) (m := m.erase x) n2 fun y hy => (List.mem_erase_of_ne (a := y) (b := x) (fun e : y = x => n1 (by rw [← e]; exact hy))).mpr (h y (.tail _ hy))
    rw [List.length_erase_of_mem hx] at this
    have : 0 < m.length := List.length_pos_of_mem hx
    rw [List.length_cons]
    omega
theorem same_vers {xs bs : Vr} (na : (xs.map (·.1)).Nodup) (nb : (bs.map (·.1)).Nodup) (ea : ∀ p ∈ xs, p.2 ≠ []) (eb : ∀ p ∈ bs, p.2 ≠ []) : sameV xs bs = true ↔ ∀ n, vlOf xs n = vlOf bs n := by
  unfold sameV
  rw [Bool.and_eq_true, decide_eq_true_eq, List.all_eq_true]
  constructor
  · rintro ⟨hl, h⟩ n
    have sub : ∀ m ∈ xs.map (·.1), m ∈ bs.map (·.1) := fun m hm => by
      obtain ⟨p, hp, rfl⟩ := List.mem_map.mp hm
      exact find_iff.mp (Bool.and_eq_true _ _ ▸ h p hp).1
    by_cases c : n ∈ xs.map (·.1)
    · obtain ⟨p, hp, rfl⟩ := List.mem_map.mp c
      exact of_decide_eq_true (Bool.and_eq_true _ _ ▸ h p hp).2
    · have no : n ∉ bs.map (·.1) := fun z => by
        have := nodup_len (l := n :: xs.map (·.1)) (m := bs.map (·.1)) (List.nodup_cons.mpr ⟨c, na⟩) fun y hy => by
          rcases List.mem_cons.mp hy with q | q
          · rw [q]; exact z
          · exact sub y q
        rw [List.length_cons, List.length_map, List.length_map] at this
        omega
      rw [vl_none c, vl_none no]
  · intro h
    have iff : ∀ m, m ∈ xs.map (·.1) ↔ m ∈ bs.map (·.1) := fun m => ⟨fun hm => by
      rcases Classical.em (m ∈ bs.map (·.1)) with z | z
      · exact z
      · have := vl_some na ea hm
        rw [h m, vl_none z] at this
        exact absurd rfl this, fun hm => by
      rcases Classical.em (m ∈ xs.map (·.1)) with z | z
      · exact z
      · have := vl_some nb eb hm
        rw [← h m, vl_none z] at this
        exact absurd rfl this⟩
    have pm : (xs.map (·.1)).Perm (bs.map (·.1)) := (List.perm_ext_iff_of_nodup na nb).mpr iff
    refine ⟨by have := pm.length_eq; rwa [List.length_map, List.length_map] at this, fun p hp => ?_⟩
    rw [Bool.and_eq_true]
    exact ⟨find_iff.mpr ((iff p.1).mp (List.mem_map_of_mem hp)), decide_eq_true (h p.1)⟩
theorem versK_valV {F : FS} {H : Hp} {bs : Vr} {kvs : List (Key × V)} (r : RpK F H (versK bs) kvs) (n : Str) : (valV kvs (.inr n) = none ∧ (bs.find? fun q => decide (q.1 = n)) = none) ∨ ∃ q u, (bs.find? fun q => decide (q.1 = n)) = some q ∧ valV kvs (.inr n) = some u ∧ Rp F H (.list (q.2.map .int)) u := by
  have e : getD' (versK bs) (.inr n) = (bs.find? fun q => decide (q.1 = n)).map fun q => D.list (q.2.map .int) := by
    unfold getD' versK
    rw [List.find?_map, Option.map_map]
    have e : ((fun kv : Key × D => decide (kv.1 = .inr n)) ∘ fun p : Str × List Int => ((.inr p.1, .list (p.2.map .int)) : Key × D)) = fun q => decide (q.1 = n) := by
      funext p
      show decide ((Sum.inr p.1 : Key) = .inr n) = _
      by_cases c : p.1 = n
      · simp [c]
      · rw [decide_eq_false c, decide_eq_false fun z => c (Sum.inr.inj z)]
    rw [e]
    rfl
  rcases (pk_of r).get (k := .inr n) with ⟨c1, c2⟩ | ⟨d', v, c1, c2, rv⟩
  · rw [e, Option.map_eq_none_iff] at c1
    exact .inl ⟨c2, c1⟩
  · rw [e] at c1
    obtain ⟨q, hq, rfl⟩ := Option.map_eq_some_iff.mp c1
    exact .inr ⟨q, v, hq, c2, rv⟩
section
variable {ρ : Ro} {Z : Zs} {i j k : Nat} {p : Addr} {K : PySem.W.Frag}
theorem ej_eqDD {P : D → Zs → Prop} {cs : Cs} {vs : Vr} (hi : ρ[i]? = some (.ptr p)) (hk : Z[k]? = some (.vers p cs)) (hj : ρ[j]? = some (.im (versD vs))) (nc : (cs.map (·.1)).Nodup) (nv : (vs.map (·.1)).Nodup) (h : P (.bool (sameV (vrOf cs) vs)) Z) : EvJ (tOp (rEqDD K) (tVar i) (tVar j)) ρ Z P := fun B F H σ en Q kk => by
  obtain ⟨v, hv, b, kvs, rfl, fb, hb, r⟩ := en.e.im j _ hj
  have vat : H p = some (.dK (cs.map fun c => (.inr c.1, V.ref c.2.1))) ∧ ∀ c ∈ cs, H c.2.1 = some (.lst (c.2.2.map .int)) := en.z.at_ _ (List.mem_of_getElem? hk)
  have nf : ∀ c ∈ cs, ¬ F c.2.1 := fun c hc => en.z.nf _ (List.mem_flatMap.mpr ⟨_, List.mem_of_getElem? hk, .tail _ (List.mem_map_of_mem (f := fun c : Str × Addr × List Int => c.2.1) hc)⟩)
  have nc' : ((vrOf cs).map (·.1)).Nodup := by rw [vr_names]; exact nc
  have own : ∀ c ∈ cs, vlOf (vrOf cs) c.1 = c.2.2 := fun c hc => (vlOf_mem nc' (p := (c.1, c.2.2)) (List.mem_map_of_mem (f := fun c : Str × Addr × List Int => (c.1, c.2.2)) hc)).2
  refine ⟨.ref p, en.e.pt i p hi, .ref b, hv, p, b, _, kvs, rfl, rfl, vat.1, hb, fun q => match q.1 with
    | .inr n => decide (vlOf (vrOf cs) n = vlOf vs n)
    | .inl _ => false, fun q hq u hu => ?_, ?_⟩
  · obtain ⟨c, hc, rfl⟩ := List.mem_map.mp hq
    rcases versK_valV r c.1 with ⟨c1, _⟩ | ⟨q, u', e1, e2, ru⟩
    · rw [c1] at hu
      cases hu
    · rw [e2] at hu
      cases hu
      have ru0 := ru
      obtain ⟨b1, ys, rfl, f1, hb1, ry⟩ := ru0
      have dp1 : Dp K H (V.ref c.2.1) (toPy (.list (c.2.2.map .int))) := okD_dp (F := fun a => a = c.2.1) (ok_ints c.2.2) ⟨c.2.1, _, rfl, rfl, vat.2 c hc, Rps.of_ints _⟩
      have e2 : vlOf vs c.1 = q.2 := by
        unfold vlOf
        rw [e1]
        rfl
      refine ⟨c.2.1, b1, _, _, rfl, rfl, fun z => nf c hc (z ▸ f1), dp1, okD_dp (ok_ints q.2) ru, ok_ints c.2.2, ok_ints q.2, ?_⟩
      rw [eqvD_ints]
      show decide (vlOf (vrOf cs) c.1 = vlOf vs c.1) = _
      rw [own c hc, e2]
  · have lk : kvs.length = vs.length := by rw [(pk_of r).len, versK_len]
    have e : (decide ((cs.map fun c : Str × Addr × List Int => ((.inr c.1 : Key), V.ref c.2.1)).length = kvs.length) && (cs.map fun c : Str × Addr × List Int => ((.inr c.1 : Key), V.ref c.2.1)).all fun q => (valV kvs q.1).isSome && (match q.1 with
      | .inr n => decide (vlOf (vrOf cs) n = vlOf vs n)
      | .inl _ => false)) = sameV (vrOf cs) vs := by
      unfold sameV
      rw [List.length_map, lk, show (vrOf cs).length = cs.length from List.length_map _]
      congr 1
      rw [List.all_map]
      conv => rhs; rw [show vrOf cs = cs.map fun c => (c.1, c.2.2) from rfl, List.all_map]
      congr 1
      funext c
      show ((valV kvs (.inr c.1)).isSome && decide (vlOf (vrOf cs) c.1 = vlOf vs c.1)) = _
      have : (valV kvs (.inr c.1)).isSome = (vs.find? fun q => decide (q.1 = c.1)).isSome := by
        rcases versK_valV r c.1 with ⟨c1, c2⟩ | ⟨q, u', e1, e2, _⟩
        · rw [c1, c2]; rfl
        · rw [e1, e2]; rfl
      rw [this]
      rfl
    exact e ▸ kk _ _ F H Z h en Fr.refl rfl
end
end Tk

set_option Elab.async false
set_option linter.all false
set_option maxRecDepth 100000
set_option maxHeartbeats 4000000
/-! E16: done one by one, plain part; and in one logic, the other way in. -/
namespace Tk
open PySem PySem.Spec PyProof.Rows L2 Dm
theorem find_put (n : Str) (v : Int) : ∀ (st : Sto) (m : Str), ((st.map fun p => if p.1 = n then (p.1, v) else p).find? fun p => decide (p.1 = m)).map (·.2) = if m = n then (if (st.any fun p => decide (p.1 = n)) = true then some v else none) else (st.find? fun p => decide (p.1 = m)).map (·.2)
  | [], m => by
    by_cases q : m = n
    · rw [if_pos q]; rfl
    · rw [if_neg q]; rfl
  | p :: st, m => by
    rw [List.map_cons, List.find?_cons, List.any_cons, List.find?_cons]
    have ih := find_put n v st m
    by_cases c : p.1 = n
    · rw [if_pos c, decide_eq_true c, Bool.true_or, if_pos rfl]
      by_cases q : m = n
      · rw [decide_eq_true (show p.1 = m from by rw [c, q]), if_pos q]
        rfl
      · rw [decide_eq_false (show ¬ p.1 = m from fun z => q (by rw [← z, c])), if_neg q]
        rw [if_neg q] at ih
        exact ih
    · rw [if_neg c, decide_eq_false c, Bool.false_or]
      by_cases q : m = n
      · rw [decide_eq_false (show ¬ p.1 = m from fun z => c (by rw [z, q]))]
        exact ih
      · rw [if_neg q]
        rw [if_neg q] at ih
        by_cases e : p.1 = m
        · rw [decide_eq_true e]
        · rw [decide_eq_false e]
          exact ih
theorem stGet_put (st : Sto) (n m : Str) (v : Int) : stGet (putS st n v) m = if m = n then v else stGet st m := by
  unfold stGet putS
  by_cases c : (st.any fun p => decide (p.1 = n)) = true
  · rw [if_pos c, find_put]
    by_cases q : m = n
    · rw [if_pos q, if_pos q, if_pos c]
      rfl
    · rw [if_neg q, if_neg q]
  · rw [if_neg c, List.find?_append, List.find?_cons]
    have no : ∀ p ∈ st, ¬ p.1 = n := fun p hp e => c (List.any_eq_true.mpr ⟨p, hp, decide_eq_true e⟩)
    by_cases q : m = n
    · subst q
      have : (st.find? fun p => decide (p.1 = m)) = none := List.find?_eq_none.mpr fun p hp e => no p hp (of_decide_eq_true e)
      rw [this, if_pos rfl, decide_eq_true rfl]
      rfl
    · rw [if_neg q, decide_eq_false (fun z : n = m => q z.symm)]
      show Option.getD (Option.map _ ((st.find? _).or none)) 0 = _
      rw [Option.or_none]
theorem find_app (n : Str) (w : Int) : ∀ (vs : Vr) (m : Str), (((vs.map fun p => if p.1 = n then (p.1, p.2 ++ [w]) else p).find? fun p => decide (p.1 = m)).map (·.2)).getD [] = if m = n then (if (vs.any fun p => decide (p.1 = n)) = true then vlOf vs n ++ [w] else []) else vlOf vs m
  | [], m => by
    by_cases q : m = n
    · rw [if_pos q]; rfl
    · rw [if_neg q]; rfl
  | p :: vs, m => by
    have ih := find_app n w vs m
    unfold vlOf at ih ⊢
    rw [List.map_cons, List.find?_cons, List.any_cons, List.find?_cons, List.find?_cons]
    by_cases c : p.1 = n
    · rw [if_pos c, decide_eq_true c, Bool.true_or, if_pos rfl]
      by_cases q : m = n
      · rw [decide_eq_true (show p.1 = m from by rw [c, q]), if_pos q]
        rfl
      · rw [decide_eq_false (show ¬ p.1 = m from fun z => q (by rw [← z, c])), if_neg q]
        rw [if_neg q] at ih
        exact ih
    · rw [if_neg c, decide_eq_false c, Bool.false_or]
      by_cases q : m = n
      · rw [decide_eq_false (show ¬ p.1 = m from fun z => c (by rw [z, q]))]
        exact ih
      · rw [if_neg q]
        rw [if_neg q] at ih
        by_cases e : p.1 = m
        · rw [decide_eq_true e]
        · rw [decide_eq_false e]
          exact ih
theorem vlOf_app (vs : Vr) (n m : Str) (w : Int) : vlOf (appV vs n w) m = if m = n then vlOf vs n ++ [w] else vlOf vs m := by
  unfold appV
  by_cases c : (vs.any fun p => decide (p.1 = n)) = true
  · rw [if_pos c]
    unfold vlOf
    rw [find_app]
    by_cases q : m = n
    · rw [if_pos q, if_pos q, if_pos c]
      rfl
    · rw [if_neg q, if_neg q]
      rfl
  · rw [if_neg c]
    have no : ∀ p ∈ vs, ¬ p.1 = n := fun p hp e => c (List.any_eq_true.mpr ⟨p, hp, decide_eq_true e⟩)
    unfold vlOf
    rw [List.find?_append, List.find?_cons]
    have nn : (vs.find? fun p => decide (p.1 = n)) = none := List.find?_eq_none.mpr fun p hp e => no p hp (of_decide_eq_true e)
    by_cases q : m = n
    · subst q
      rw [nn, if_pos rfl, decide_eq_true rfl]
      rfl
    · rw [if_neg q, decide_eq_false (fun z : n = m => q z.symm)]
      show Option.getD (Option.map _ ((vs.find? _).or none)) [] = _
      rw [Option.or_none]
def zr : Str → Int := fun _ => 0
structure Sim (L : List (Dd Str)) (st : Sto) (vs : Vr) : Prop where
  g : go zr L = true
  s : ∀ n, stGet st n = aft zr L n
  v : ∀ n, vlOf vs n = wn n L
  nd : (vs.map (·.1)).Nodup
  ne : ∀ p ∈ vs, p.2 ≠ []
  sl : st.length ≤ L.length
  vl : vs.length ≤ L.length
  ll : ∀ p ∈ vs, p.2.length ≤ L.length
theorem Sim.nil : Sim [] [] [] := ⟨rfl, fun _ => rfl, fun _ => rfl, List.nodup_nil, (fun _ h => nomatch h), Nat.le_refl _, Nat.le_refl _, (fun _ h => nomatch h)⟩
theorem aft_snoc (L : List (Dd Str)) (x : Dd Str) : aft zr (L ++ [x]) = if x.w = true then put (aft zr L) x.n x.v else aft zr L := by
  rw [aft_append]
  rfl
theorem go_snoc (L : List (Dd Str)) (x : Dd Str) : go zr (L ++ [x]) = (go zr L && (x.w || decide (aft zr L x.n = x.v))) := by
  rw [go_append]
  congr 1
  show (if x.w = true then go _ [] else if aft zr L x.n = x.v then go _ [] else false) = _
  cases c : x.w with
  | true => rfl
  | false =>
    rw [if_neg Bool.false_ne_true]
    by_cases e : aft zr L x.n = x.v
    · rw [if_pos e, decide_eq_true e]; rfl
    · rw [if_neg e, decide_eq_false e]; rfl
theorem wn_snoc (n : Str) (L : List (Dd Str)) (x : Dd Str) : wn n (L ++ [x]) = if x.w = true ∧ x.n = n then wn n L ++ [x.v] else wn n L := by
  rw [wn_append, wn_cons, wn_nil, List.append_nil]
  by_cases c : x.w = true ∧ x.n = n
  · rw [if_pos c, if_pos c]
  · rw [if_neg c, if_neg c, List.append_nil]
theorem Sim.read {L : List (Dd Str)} {st : Sto} {vs : Vr} (h : Sim L st vs) {x : Dd Str} (hw : x.w = false) (hv : stGet st x.n = x.v) : Sim (L ++ [x]) st vs := by
  have l : (L ++ [x]).length = L.length + 1 := by rw [List.length_append]; rfl
  have a := h.sl
  have b := h.vl
  refine ⟨?_, fun n => ?_, fun n => ?_, h.nd, h.ne, by omega, by omega, fun p hp => by have := h.ll p hp; omega⟩
  · rw [go_snoc, h.g, ← h.s, hv, decide_eq_true rfl, Bool.or_true]
    rfl
  · rw [aft_snoc, if_neg (by rw [hw]; exact Bool.false_ne_true)]
    exact h.s n
  · rw [wn_snoc, if_neg (fun z => by rw [hw] at z; exact Bool.false_ne_true z.1)]
    exact h.v n
theorem Sim.write {L : List (Dd Str)} {st : Sto} {vs : Vr} (h : Sim L st vs) {x : Dd Str} (hw : x.w = true) : Sim (L ++ [x]) (putS st x.n x.v) (appV vs x.n x.v) := by
  have l : (L ++ [x]).length = L.length + 1 := by rw [List.length_append]; rfl
  have a := h.sl
  have b := h.vl
  have c := putS_len st x.n x.v
  have d := appV_len vs x.n x.v
  have mem : ∀ p ∈ appV vs x.n x.v, p.2 ≠ [] ∧ p.2.length ≤ L.length + 1 := fun p hp => by
    unfold appV at hp
    by_cases q : (vs.any fun p => decide (p.1 = x.n)) = true
    · rw [if_pos q] at hp
      obtain ⟨r, hr, rfl⟩ := List.mem_map.mp hp
      have := h.ll r hr
      by_cases e : r.1 = x.n
      · rw [if_pos e]
        refine ⟨by simp, ?_⟩
        show (r.2 ++ [x.v]).length ≤ _
        rw [List.length_append, List.length_singleton]
        omega
      · rw [if_neg e]
        exact ⟨h.ne r hr, by omega⟩
    · rw [if_neg q] at hp
      rcases List.mem_append.mp hp with z | z
      · have := h.ll p z
        exact ⟨h.ne p z, by omega⟩
      · rw [List.mem_singleton.mp z]
        exact ⟨by simp, by simp⟩
  refine ⟨?_, fun n => ?_, fun n => ?_, appV_nd h.nd _ _, fun p hp => (mem p hp).1, by omega, by omega, fun p hp => by have := (mem p hp).2; omega⟩
  · rw [go_snoc, h.g, hw]
    rfl
  · rw [aft_snoc, if_pos hw, stGet_put]
    show _ = if n = x.n then x.v else aft zr L n
    rw [h.s]
  · rw [wn_snoc, vlOf_app, h.v, h.v]
    by_cases e : n = x.n
    · rw [if_pos e, if_pos ⟨hw, e.symm⟩, e]
    · rw [if_neg e, if_neg (fun z => e z.2.symm)]
theorem Sim.bad {L : List (Dd Str)} {st : Sto} {vs : Vr} (h : Sim L st vs) {x : Dd Str} (hw : x.w = false) (hv : stGet st x.n ≠ x.v) (r : List (Dd Str)) : ¬ go zr (L ++ x :: r) = true := fun z => by
  rw [show L ++ x :: r = (L ++ [x]) ++ r from by simp, go_append, go_snoc, h.g, hw, ← h.s, decide_eq_false hv] at z
  cases z
end Tk

set_option Elab.async false
set_option linter.all false
set_option maxRecDepth 100000
set_option maxHeartbeats 4000000
/-! E17: rules for _law_stands. -/
namespace Tk
open PySem PySem.Spec PyProof.Rows L2 Dm
theorem sorted_one : ∀ {a b : List Int}, a.Perm b → a.Pairwise (· ≤ ·) → b.Pairwise (· ≤ ·) → a = b
  | [], b, p, _, _ => by
    have := p.length_eq
    cases b with
    | nil => rfl
    | cons x r => simp at this
  | x :: a, [], p, _, _ => by
    have := p.length_eq
    simp at this
  | x :: a, y :: b, p, ha, hb => by
    obtain ⟨a1, a2⟩ := List.pairwise_cons.mp ha
    obtain ⟨b1, b2⟩ := List.pairwise_cons.mp hb
    have e : x = y := by
      have hx : x ∈ y :: b := p.mem_iff.mp (.head _)
      have hy : y ∈ x :: a := p.mem_iff.mpr (.head _)
      have l1 : y ≤ x := by
        rcases List.mem_cons.mp hx with z | z
        · omega
        · exact b1 x z
      have l2 : x ≤ y := by
        rcases List.mem_cons.mp hy with z | z
        · omega
        · exact a1 y z
      omega
    subst e
    rw [sorted_one (List.Perm.cons_inv p) a2 b2]
theorem nI_perm {a b : List Nat} (h : a.Perm b) : (nI a).Perm (nI b) := h.map _
theorem range_sorted (n : Nat) : (nI (List.range n)).Pairwise (· ≤ ·) := by
  unfold nI
  refine List.Pairwise.map _ (fun a b h => ?_) (List.pairwise_lt_range (n := n))
  have h : a < b := h
  omega
section
variable {ρ : Ro} {Z : Zs} {te ta tb : TE} {tr : TA} {K : PySem.W.Frag} {ds : List D}
/-- sorted(numbers), an arrangement of the first n -/
theorem ev_sortedI {o : List Nat} {n : Nat} (h : Ev te ρ (.list ((nI o).map .int))) (pm : o.Perm (List.range n)) : Ev (tCB (rSortedI K) (tCons te tNil)) ρ (.list ((nI (List.range n)).map .int)) := fun B F H σ en Q k =>
  h B F H σ en _ fun v F1 H1 g1 r1 => by
    obtain ⟨a, xs, rfl, fa, ha, r⟩ := r1
    have e := r.ints
    subst e
    refine ⟨a, nI o, rfl, SqL.of ha, fun ns' p q sd hp => ?_⟩
    have e : ns' = nI (List.range n) := sorted_one (q.trans (nI_perm pm)) sd (range_sorted n)
    subst e
    exact k _ (addF F1 p) _ (g1.trans (Gw.new g1.h hp)) ⟨p, _, rfl, .inr rfl, upd_same, Rps.of_ints _⟩
theorem ej_andV {Pa P : D → Zs → Prop} (h1 : EvJ ta ρ Z Pa) (h2 : ∀ d Z1, Pa d Z1 → ∃ b, d = .bool b ∧ (b = true → EvJ tb ρ Z1 P) ∧ (b = false → P (.bool false) Z1)) : EvJ (tAndV ta tb) ρ Z P := fun B F H σ en Q k => h1 B F H σ en _ fun d v F1 H1 Z1 pa en1 fr1 r1 => by
  obtain ⟨b, e, ht, hf⟩ := h2 d Z1 pa
  subst e
  refine ⟨b, r1, ?_⟩
  cases b with
  | true =>
    rw [if_pos rfl]
    exact ht rfl B F1 H1 σ en1 Q fun d v F2 H2 Z2 p en2 fr2 r2 => k d v F2 H2 Z2 p en2 (fr1.trans fr2) r2
  | false =>
    rw [if_neg Bool.false_ne_true]
    exact k _ _ F1 H1 Z1 (hf rfl) en1 fr1 rfl
theorem rpAs_of {F : FS} {H : Hp} : ∀ {ds : List D} {vs : List V}, Rps F H ds vs → RpAs F H (ds.map A.d) vs
  | [], vs, h => h
  | d :: ds, vs, h => by
    obtain ⟨v, ws, rfl, p, q⟩ := h
    exact ⟨v, ws, rfl, p, rpAs_of q⟩
/-- in the logic of data: a call of a def that changes nothing it is handed -/
theorem evp_callJ {Pre : List A → Zs → Prop} {R : List A → Zs → A → Zs → Prop} {E : XK} {P : D → Prop} (h : EvA tr ρ ds) (p : Pre (ds.map .d) []) (hR : ∀ r Z', R (ds.map .d) [] r Z' → ∃ d, r = .d d ∧ P d) : EvP (tCall (CtJ Pre R) [] E tr) ρ P := fun B F H σ en Q k =>
  h B F H σ en _ fun vs F1 H1 g1 r1 => ⟨F1, ds.map .d, [], g1.h, by rw [List.append_nil]; exact rpAs_of r1, ⟨(fun _ h => nomatch h), (fun _ h => nomatch h), List.nodup_nil⟩, p, fun v F' H' r Z' hr g _ rv => by
    obtain ⟨d, e, pd⟩ := hR r Z' hr
    subst e
    have gw : Gw F1 H1 F' H' := ⟨g.f, fun a o e => g.s a o (fun m => nomatch m) e, g.n, g.h⟩
    exact k d v F' H' pd (g1.trans gw) rv⟩
end
end Tk

set_option Elab.async false
set_option linter.all false
set_option maxRecDepth 100000
set_option maxHeartbeats 4000000
/-! E18: _law_stands. -/
namespace Tk
open PySem PySem.Spec PyProof.Rows L2 Dm
theorem set_pl {ρ ρ1 : Ro} {k : Nat} {d : D} (h : ∀ (i : Nat) (x : Ent), ρ1[i]? = some x → plE x ∨ ρ[i]? = some x) : ∀ (i : Nat) (x : Ent), (ρ1.set k (.im d))[i]? = some x → plE x ∨ ρ[i]? = some x := fun i x e => by
  by_cases c : k = i
  · subst c
    rw [← (get_set_self e).1]
    exact .inl True.intro
  · rw [List.getElem?_set_ne c] at e
    exact h i x e
theorem seq_take {dl : List (Dl Str)} {o : List Nat} {i m : Nat} (h : o[i]? = some m) : seq dl (o.take (i + 1)) = seq dl (o.take i) ++ dsOf dl m := by
  unfold seq
  rw [List.take_add_one, h, List.flatMap_append]
  simp
theorem seq_cut {dl : List (Dl Str)} {o : List Nat} {i m : Nat} (h : o[i]? = some m) : seq dl o = seq dl (o.take i) ++ (dsOf dl m ++ seq dl (o.drop (i + 1))) := by
  have hi := (List.getElem?_eq_some_iff.mp h).1
  have e : o = o.take i ++ m :: o.drop (i + 1) := by
    conv => lhs; rw [← List.take_append_drop i o]
    rw [List.drop_eq_getElem_cons hi, (List.getElem?_eq_some_iff.mp h).2]
  conv => lhs; rw [e]
  unfold seq
  rw [List.flatMap_append, List.flatMap_cons]
theorem seq_len {dl : List (Dl Str)} (h : ∀ d ∈ dl, d.ds.length ≤ 4) : ∀ o : List Nat, (seq dl o).length ≤ 4 * o.length
  | [] => Nat.le_refl _
  | m :: o => by
    have := seq_len h o
    unfold seq at this ⊢
    rw [List.flatMap_cons, List.length_append, List.length_cons]
    have l4 : (dsOf dl m).length ≤ 4 := by
      unfold dsOf
      cases c : dl[m]? with
      | none => exact Nat.zero_le _
      | some d => exact h d (List.mem_of_getElem? c)
    omega
def lateB (dl : List (Dl Str)) (d' : Dl Str) (j : Nat) : Bool := match dl[j]? with
  | some d => decide (d.e < d'.b)
  | none => false
def KOk (dl : List (Dl Str)) (o : List Nat) (k : Nat) : Prop := ∀ m, o[k]? = some m → ∀ j ∈ o.drop k, ∀ d d', dl[j]? = some d → dl[m]? = some d' → ¬ d.e < d'.b
theorem timeOk_iff {dl : List (Dl Str)} {o : List Nat} : TimeOk dl o ↔ ∀ k, k < o.length → KOk dl o k := by
  constructor
  · intro h k hk m hm j hj d d' hd hd'
    have e : o = o.take k ++ m :: o.drop (k + 1) := by
      conv => lhs; rw [← List.take_append_drop k o]
      rw [List.drop_eq_getElem_cons hk, (List.getElem?_eq_some_iff.mp hm).2]
    have ed : o.drop k = m :: o.drop (k + 1) := by rw [List.drop_eq_getElem_cons hk, (List.getElem?_eq_some_iff.mp hm).2]
    exact h _ _ _ e j (ed ▸ hj) d d' hd hd'
  · intro h p i q e j hj d d' hd hd'
    have hk : p.length < o.length := by rw [e, List.length_append, List.length_cons]; omega
    refine h p.length hk i (by rw [e, List.getElem?_append_right (Nat.le_refl _), Nat.sub_self]; rfl) j ?_ d d' hd hd'
    rw [e, List.drop_left]
    exact hj
theorem late_nil {dl : List (Dl Str)} {o : List Nat} {k m : Nat} {d' : Dl Str} (hm : o[k]? = some m) (hd' : dl[m]? = some d') : (o.drop k).filter (lateB dl d') = [] ↔ KOk dl o k := by
  rw [List.filter_eq_nil_iff]
  constructor
  · intro h m2 hm2 j hj d d2 hd hd2 lt
    rw [hm] at hm2
    cases hm2
    rw [hd'] at hd2
    cases hd2
    refine h j hj ?_
    unfold lateB
    rw [hd]
    exact decide_eq_true lt
  · intro h j hj c
    unfold lateB at c
    cases e : dl[j]? with
    | none => rw [e] at c; cases c
    | some d =>
      rw [e] at c
      exact h m hm j hj d d' e hd' (of_decide_eq_true c)
section
variable {P : Program} {w : World} {K : PySem.W.Frag} {mg : Str → Option Value} {base : Heap}
abbrev s__law_stands : Stmt := topS 44
theorem sc__law_stands : FnScope ["some", "versions", "timed", "order", "store", "rising", "number", "verb", "name", "worth", "k", "other"] ["some", "versions", "timed", "order"] (defScope s__law_stands) := ⟨rfl, rfl, rfl, by decide +kernel, rfl, by decide +kernel, by decide +kernel⟩
def pSt (es : List A) (Z : Zs) : Prop := ∃ (dl : List (Dl Str)) (vs : Vr) (timed : Bool) (o : List Nat), es = [.d (.list (dl.map dealD)), .d (versD vs), .d (.bool timed), .d (.list ((nI o).map .int))] ∧ Z = [] ∧ Good dl vs ∧ o.Perm (List.range dl.length)
def rSt (es : List A) (_ : Zs) (r : A) (_ : Zs) : Prop := ∃ (dl : List (Dl Str)) (vs : Vr) (timed : Bool) (o : List Nat) (b : Bool), es = [.d (.list (dl.map dealD)), .d (versD vs), .d (.bool timed), .d (.list ((nI o).map .int))] ∧ r = .d (.bool b) ∧ (b = true ↔ Stands dl (vlOf vs) timed o)
theorem cal__law_stands (F : DefAt K mg "_law_stands" s__law_stands ["some", "versions", "timed", "order"]) (T : Bt mg) : Cal P w K mg base "_law_stands" ["some", "versions", "timed", "order"] 1 (CtJ pSt rSt) := by
  refine cal_J F sc__law_stands (fun es Z ⟨_, _, _, _, e, _⟩ => by rw [e]; rfl) (fun es Z r Z' ⟨_, _, _, _, _, ez, _⟩ _ a ha => by rw [ez] at ha; cases ha) (fun f cdv A outer s H E hr => ?_)
  have hu := hu_of hr
  refine ⟨_, (pss_cons (ps_set (i := 4) sc__law_stands.nd rfl (.inl rfl) pe_dnewK)
      (pss_cons (ps_set (i := 5) sc__law_stands.nd rfl (.inl rfl) pe_dnewK)
      (pss_cons (ps_for PassesOwn.never rfl (pi_list (pv 3)) (pg_name (i := 6) sc__law_stands.nd rfl (.inl rfl) (.inl rfl)) (pss_one (ps_for PassesOwn.never rfl (pi_tup (pe_ix ix_tup (pe_ix ix_list (pv 0) (pv 6) (fun _ _ => rfl)) pe_int (fun _ _ => rfl))) (pg_tup rfl (pgs_cons (pg_name (i := 7) sc__law_stands.nd rfl (.inl rfl) (.inl rfl)) (pgs_cons (pg_name (i := 8) sc__law_stands.nd rfl (.inl rfl) (.inl rfl)) (pgs_cons (pg_name (i := 9) sc__law_stands.nd rfl (.inl rfl) (.inl rfl)) pgs_nil)))) (pss_cons (ps_if (PW.pt (pw_and (pt_cmpR op_eq (pv 7) pe_str (nomark _)) (pw_and1 (pt_cmpR op_ne (pe_dget2 hu (pv 4) (pv 8) pe_int ⟨rfl, rfl, rfl, rfl⟩) (pv 9) (nomark _))))) (pss_one (ps_ret pe_bl)) pss_nil)
      (pss_one (ps_if (pt_cmpR op_eq (pv 7) pe_str (nomark _)) (pss_cons (ps_dput hu (pv 4) (pv 8) (pv 9) rfl)
      (pss_one (ps_expr (pe_bm PySem.F.plainAttrs_list PySem.F.slot_list_append PySem.F.type_list_append mt_append (pe_dsetd (pv 5) (pv 8) (pe_lst pa_nil) ⟨rfl, rfl, rfl, rfl⟩) (pa_cons (pv 9) pa_nil))))) pss_nil))))))
      (pss_cons (ps_if (pt_val (pv 2)) (pss_one (ps_for PassesOwn.never rfl (pi_range1 rfl T.range_ (pa_cons (pe_callB call_len_seq (by rfl) T.len_ PySem.boot_len (pa_cons (pv 3) pa_nil)) pa_nil)) (pg_name (i := 10) sc__law_stands.nd rfl (.inr rfl) (.inl rfl)) (pss_one (ps_if (pt_cmpR (op_neD hr.units) (pe_lc (own := [("other", 11)]) (g := gName 11) (by rfl) sc__law_stands.nd (pi_list (pe_slice sl_list (pv 3) (po_some (pv 10)) po_none)) (blkOk_by (own := [("other", 11)]) (N := ["some", "versions", "timed", "order", "store", "rising", "number", "verb", "name", "worth", "k", "other"]) (sc := defScope s__law_stands) (by decide +kernel)) (fun _ _ _ _ _ => (pg_name (i := 11) sc__law_stands.nd rfl (.inl rfl) (.inr rfl))) (fun _ _ _ _ _ => pts_one (pt_cmpR op_lt (pe_ix (ix_tupK K) (pe_ix (ix_listK K) (pv 0) (pv 11) (fun _ _ => rfl)) pe_int (fun _ _ => rfl)) (pe_ix (ix_tupK K) (pe_ix (ix_listK K) (pv 0) (pe_ix (ix_listK K) (pv 3) (pv 10) (fun _ _ => rfl)) (fun _ _ => rfl)) pe_int (fun _ _ => rfl)) (nomark _))) (fun _ _ _ _ _ => (pv 11))) (pe_lst pa_nil) (nomark _)) (pss_one (ps_ret pe_bl)) pss_nil)))) pss_nil)
      (pss_one (ps_ret (pe_and (pe_cmpR (op_eqDD hr.units65) (pv 5) (pv 1) (nomark _)) (pe_one (pe_cmpR (op_eqD hr.units) (pe_callB cr_sortedI (by rfl) T.sorted_ (by decide +kernel) (pa_cons (pv 3) pa_nil)) (pe_lc (own := [("k", 10)]) (g := gName 10) (by rfl) sc__law_stands.nd (pi_range1 rfl T.range_ (pa_cons (pe_callB call_len_seq (by rfl) T.len_ PySem.boot_len (pa_cons (pv 0) pa_nil)) pa_nil)) (blkOk_by (own := [("k", 10)]) (N := ["some", "versions", "timed", "order", "store", "rising", "number", "verb", "name", "worth", "k", "other"]) (sc := defScope s__law_stands) (by decide +kernel)) (fun _ _ _ _ _ => (pg_name (i := 10) sc__law_stands.nd rfl (.inl rfl) (.inr rfl))) (fun _ _ _ _ _ => pts_nil) (fun _ _ _ _ _ => (pv 10))) (nomark _)))))))))), fun es Z ⟨dl, vs, timed, o, e, ez, G, pm⟩ => ?_⟩
  subst e ez
  have n12 := G.n12
  have ol : o.length = dl.length := by rw [pm.length_eq, List.length_range]
  have d4 : ∀ d ∈ dl, d.ds.length ≤ 4 := fun d hd => (G.dl d hd).2.2.2.2
  refine sj_seq (sj_asgN en_dictK fun ps => ?_)
  refine sj_seq (sj_asgN en_dictK fun pr => ?_)
  refine sj_asVers (k := 1) (p := pr) rfl ?_
  refine sj_mid (fun ρ Z => ∃ (st : Sto) (cs : Cs), Sim (seq dl o) st (vrOf cs) ∧ ρ = [.im (.list (dl.map dealD)), .im (versD vs), .im (.bool timed), .im (.list ((nI o).map .int)), .ptr ps, .ptr pr, .no, .no, .no, .no, .no, .no] ∧ Z = [.cell ps (.dict (storeK st)), .vers pr cs])
    (sj_for [6, 7, 8, 9] (P := fun l Z' => l = (nI o).map .int ∧ Z' = [.cell ps (.dict []), .vers pr []]) (wj_ev (wk_list (ev_var rfl)) ⟨rfl, rfl⟩) fun l Z1 ⟨e1, e2⟩ => ?_) fun ρ Z ⟨st, cs, sim, er, ez⟩ => ?_
  · subst e1 e2
    rw [List.length_map, nI_len]
    refine ⟨fun i ρ Z => ∃ (st : Sto) (cs : Cs), Sim (seq dl (o.take i)) st (vrOf cs) ∧ ρ = [.im (.list (dl.map dealD)), .im (versD vs), .im (.bool timed), .im (.list ((nI o).map .int)), .ptr ps, .ptr pr, .no, .no, .no, .no, .no, .no] ∧ Z = [.cell ps (.dict (storeK st)), .vers pr cs],
      ⟨[], [], Sim.nil, rfl, rfl⟩, fun i d ρ Z hd ⟨st, cs, sim, er, ez⟩ => ⟨_, tj_name, ?_⟩, fun ρ Z ⟨st, cs, sim, er, ez⟩ => ⟨st, cs, by rw [List.take_length] at sim; exact sim, er, ez⟩⟩
    subst er ez
    rw [List.getElem?_map] at hd
    obtain ⟨z, hz, rfl⟩ := Option.map_eq_some_iff.mp hd
    unfold nI at hz
    rw [List.getElem?_map] at hz
    obtain ⟨m, hm, rfl⟩ := Option.map_eq_some_iff.mp hz
    have hml : m < dl.length := List.mem_range.mp (pm.mem_iff.mp (List.mem_of_getElem? hm))
    have hd : dl[m]? = some dl[m] := List.getElem?_eq_getElem hml
    have eds : dsOf dl m = dl[m].ds := dsOf_get hd
    refine sj_for [7, 8, 9] (P := fun l Z' => l = dl[m].ds.map deedD ∧ Z' = [.cell ps (.dict (storeK st)), .vers pr cs]) (wj_ev (wk_tup (ev_op (d := dealD dl[m]) (ev_op (d := .list (dl.map dealD)) (e := .int (m : Int)) (ev_var rfl) (ev_var rfl) (rv_ixL (atI_nat (by rw [List.getElem?_map, hd]; rfl)))) ev_int (rv_ixT (atI_nat (j := 2) rfl)))) ⟨rfl, rfl⟩) fun l Z1 ⟨e1, e2⟩ => ?_
    subst e1 e2
    rw [List.length_map]
    refine ⟨fun j ρ Z => ∃ (st : Sto) (cs : Cs), Sim (seq dl (o.take i) ++ dl[m].ds.take j) st (vrOf cs) ∧ ρ = [.im (.list (dl.map dealD)), .im (versD vs), .im (.bool timed), .im (.list ((nI o).map .int)), .ptr ps, .ptr pr, .im (.int (m : Int)), .no, .no, .no, .no, .no] ∧ Z = [.cell ps (.dict (storeK st)), .vers pr cs],
      ⟨st, cs, by rw [List.take_zero, List.append_nil]; exact sim, rfl, rfl⟩, fun j d ρ Z hx ⟨st, cs, sim, er, ez⟩ => ?_, fun ρ Z ⟨st, cs, sim, er, ez⟩ => ?_⟩
    · subst er ez
      rw [List.getElem?_map] at hx
      obtain ⟨x, hy, rfl⟩ := Option.map_eq_some_iff.mp hx
      have tk : seq dl (o.take i) ++ dl[m].ds.take (j + 1) = (seq dl (o.take i) ++ dl[m].ds.take j) ++ [x] := by
        rw [List.take_add_one, hy, List.append_assoc]
        rfl
      have lL : (seq dl (o.take i) ++ dl[m].ds.take j).length ≤ 100 := by
        have a := seq_len d4 (o.take i)
        have b := d4 _ (List.getElem_mem hml)
        have c : (o.take i).length ≤ o.length := by rw [List.length_take]; exact Nat.min_le_right _ _
        rw [List.length_append, List.length_take]
        omega
      have sl := sim.sl
      have vl := sim.vl
      have lv : (vrOf cs).length = cs.length := List.length_map _
      refine ⟨_, ⟨_, tg_tup (tgs_cons tg_name (tgs_cons tg_name (tgs_cons tg_name tgs_nil))), set_pl (set_pl (set_pl fun _ _ h => .inr h))⟩, ?_⟩
      have fz : FrzL [.cell ps (.dict (storeK st)), .vers pr cs] [.im (.list (dl.map dealD)), .im (versD vs), .im (.bool timed), .im (.list ((nI o).map .int)), .ptr ps, .ptr pr, .im (.int (m : Int)), .im (.str (verbS x.w)), .im (.str x.n), .im (.int x.v), .no, .no] [.im (.list (dl.map dealD)), .im (versD vs), .im (.bool timed), .im (.list ((nI o).map .int)), .im (.dict (storeK st)), .ptr pr, .im (.int (m : Int)), .im (.str (verbS x.w)), .im (.str x.n), .im (.int x.v), .no, .no] :=
        ⟨.same _, .same _, .same _, .same _, .cell (.head _), .same _, .same _, .same _, .same _, .same _, .same _, .same _, True.intro⟩
      refine sj_seq (sj_if (P := fun b Z' => b = (!x.w && !decide (stGet st x.n = x.v)) ∧ Z' = [.cell ps (.dict (storeK st)), .vers pr cs]) (et_frz fz (et_and (et_test (Ev.cast (ev_op (ev_var rfl) ev_str rv_eqS) (congrArg D.bool (verb_read x.w)))) (fun _ => et_test (ev_op (Ev.cast (ev_dget2S (kds := storeK st) (ev_var rfl) (ev_var rfl) ev_int) (storeK_get st x.n)) (ev_var rfl) rv_neI))) ⟨rfl, rfl⟩) (fun Z1 ⟨hb, e⟩ => ?_) (fun Z1 ⟨hb, e⟩ => sj_next ?_))
      · subst e
        have q := (Bool.and_eq_true _ _ ▸ hb.symm)
        have hw : x.w = false := by simpa using q.1
        have hv : stGet st x.n ≠ x.v := by simpa using q.2
        refine sj_ret (ej_ev ev_bl ⟨dl, vs, timed, o, false, rfl, rfl, fun h => (nomatch h), fun h => ?_⟩)
        have e1 : dl[m].ds = dl[m].ds.take j ++ x :: dl[m].ds.drop (j + 1) := by
          conv => lhs; rw [← List.take_append_drop j dl[m].ds]
          rw [List.drop_eq_getElem_cons (List.getElem?_eq_some_iff.mp hy).1, (List.getElem?_eq_some_iff.mp hy).2]
        have e2 : seq dl o = (seq dl (o.take i) ++ dl[m].ds.take j) ++ x :: (dl[m].ds.drop (j + 1) ++ seq dl (o.drop (i + 1))) := by
          rw [seq_cut hm, eds]
          conv => lhs; rw [e1]
          simp
        have := h.1
        rw [e2] at this
        exact absurd this (sim.bad hw hv _)
      · subst e
        refine sj_if (P := fun b Z' => b = x.w ∧ Z' = [.cell ps (.dict (storeK st)), .vers pr cs]) (et_ofT (et_test (Ev.cast (ev_op (ev_var rfl) ev_str rv_eqS) (congrArg D.bool (verb_write x.w)))) ⟨rfl, rfl⟩) (fun Z1 ⟨hw, e⟩ => ?_) (fun Z1 ⟨hw, e⟩ => sj_next ?_)
        · subst e
          refine sj_seq (sj_dput (p := ps) (kds := []) (key := .inr x.n) rfl (ej_ev (d := .int x.v) (ev_var rfl) (ej_ev (d := .str x.n) (ev_var rfl) ⟨0, storeK st, .inr x.n, rfl, rfl, by rw [storeK_len]; omega, ?_⟩)))
          refine sj_verApp (p := pr) (k := 1) (cs := cs) (n := x.n) (w := x.v) rfl rfl (ev_var rfl) (ev_var rfl) (by omega) (by rw [← vr_names]; exact sim.nd) (fun c hc => ?_) fun cs' hcs _ => ?_
          · have := sim.ll (c.1, c.2.2) (List.mem_map_of_mem (f := fun c : Str × Addr × List Int => (c.1, c.2.2)) hc)
            have : c.2.2.length ≤ _ := this
            omega
          · refine ⟨putS st x.n x.v, cs', ?_, rfl, by rw [storeK_put]; rfl⟩
            rw [tk, hcs]
            exact sim.write hw.symm
        · subst e
          refine ⟨st, cs, ?_, rfl, rfl⟩
          rw [tk]
          refine sim.read hw.symm ?_
          rw [← hw] at hb
          simpa using hb
    · subst er ez
      refine ⟨st, cs, ?_, rfl, rfl⟩
      rw [seq_take hm, eds]
      rw [List.take_length] at sim
      exact sim
  subst er ez
  have vlen := sim.vl
  -- the times
  refine sj_mid (fun ρ Z => (timed = true → TimeOk dl o) ∧ ρ = [.im (.list (dl.map dealD)), .im (versD vs), .im (.bool timed), .im (.list ((nI o).map .int)), .ptr ps, .ptr pr, .no, .no, .no, .no, .no, .no] ∧ Z = [.cell ps (.dict (storeK st)), .vers pr cs])
    (sj_if (P := fun b Z' => b = timed ∧ Z' = [.cell ps (.dict (storeK st)), .vers pr cs]) (et_ofT (et_val (ev_var rfl)) ⟨rfl, rfl⟩) (fun Z1 ⟨hT, e⟩ => ?_) (fun Z1 ⟨hT, e⟩ => sj_next ⟨(fun h => by rw [← hT] at h; exact nomatch h), rfl, e⟩)) fun ρ Z ⟨tok, er, ez⟩ => ?_
  · subst e
    refine sj_for [10, 11] (P := fun l Z' => l = upto o.length ∧ Z' = [.cell ps (.dict (storeK st)), .vers pr cs]) (wj_ev (wk_range (ea_cons (Ev.cast (ev_lenL (ev_var rfl)) (by rw [List.length_map, nI_len])) ea_nil) (by omega)) ⟨rfl, rfl⟩) fun l Z1 ⟨e1, e2⟩ => ?_
    subst e1 e2
    rw [upto_len]
    refine ⟨fun k ρ Z => (∀ k', k' < k → KOk dl o k') ∧ ρ = [.im (.list (dl.map dealD)), .im (versD vs), .im (.bool timed), .im (.list ((nI o).map .int)), .ptr ps, .ptr pr, .no, .no, .no, .no, .no, .no] ∧ Z = [.cell ps (.dict (storeK st)), .vers pr cs],
      ⟨fun k h => absurd h (Nat.not_lt_zero k), rfl, rfl⟩, fun k d ρ Z hd ⟨oks, er, ez⟩ => ⟨_, tj_name, ?_⟩, fun ρ Z ⟨oks, er, ez⟩ => ⟨fun _ => timeOk_iff.mpr oks, er, ez⟩⟩
    subst er ez
    have hk : k < o.length := by
      have := (List.getElem?_eq_some_iff.mp hd).1
      rwa [upto_len] at this
    rw [upto_get hk] at hd
    cases hd
    have hm : o[k]? = some o[k] := List.getElem?_eq_getElem hk
    have hml : o[k] < dl.length := List.mem_range.mp (pm.mem_iff.mp (List.getElem_mem hk))
    have hd' : dl[o[k]]? = some dl[o[k]] := List.getElem?_eq_getElem hml
    have cutO : cutD ((nI o).map D.int) (some (k : Int)) none = (o.drop k).map fun j : Nat => D.int (j : Int) := by
      rw [cut_drop, map_drop']
      unfold nI
      rw [map_drop', List.map_map]
      rfl
    have lc : EvN (tLc (iList K (tSl (rSlL K) (tVar 3) (tPart (tVar 10)) tNoPart)) (gName 11) (tTest (tOp (rI0 fun i j => .bl (decide (i < j))) (tOp (rIxT K) (tOp (rIxL K) (tVar 0) (tVar 11)) (tC (.int 1))) (tOp (rIxT K) (tOp (rIxL K) (tVar 0) (tOp (rIxL K) (tVar 3) (tVar 10))) (tC (.int 0))))) (tVar 11) [11])
        [.im (.list (dl.map dealD)), .im (versD vs), .im (.bool timed), .im (.list ((nI o).map .int)), .ptr ps, .ptr pr, .no, .no, .no, .no, .im (.int (k : Int)), .no] (.list ((nI ((o.drop k).filter (lateB dl dl[o[k]]))).map .int)) := by
      refine EvN.cast (en_lc (o.drop k) (fun j : Nat => .int (j : Int)) (wk_list (EvN.ev (EvN.cast (en_slL (ev_var rfl) (eo_some (ev_var rfl)) eo_none) (congrArg D.list cutO)))) (fun j => if lateB dl dl[o[k]] j = true then some (.int (j : Int)) else none) (by rw [List.length_drop]; omega) (fun i j hj => ?_)) ?_
      · have hjl : j < dl.length := List.mem_range.mp (pm.mem_iff.mp (List.mem_of_mem_drop (List.mem_of_getElem? hj)))
        have hdj : dl[j]? = some dl[j] := List.getElem?_eq_getElem hjl
        have el : lateB dl dl[o[k]] j = decide (dl[j].e < dl[o[k]].b) := by unfold lateB; rw [hdj]
        refine ⟨_, _, tg_name, by decide, EvT.cast (et_test (ev_op (ev_op (d := dealD dl[j]) (ev_op (d := .list (dl.map dealD)) (e := .int (j : Int)) (ev_var rfl) (ev_var rfl) (rv_ixL (atI_nat (by rw [List.getElem?_map, hdj]; rfl)))) ev_int (rv_ixT (atI_nat (j := 1) rfl))) (ev_op (d := dealD dl[o[k]]) (ev_op (d := .list (dl.map dealD)) (e := .int ((o[k] : Nat) : Int)) (ev_var rfl) (ev_op (d := .list ((nI o).map .int)) (e := .int (k : Int)) (ev_var rfl) (ev_var rfl) (rv_ixL (atI_nat (by unfold nI; rw [List.getElem?_map, List.getElem?_map, hm]; rfl)))) (rv_ixL (atI_nat (by rw [List.getElem?_map, hd']; rfl)))) ev_int (rv_ixT (atI_nat (j := 0) rfl))) rv_lt)) ?_, fun e he => ?_⟩
        · rw [← el]
          cases lateB dl dl[o[k]] j <;> rfl
        · by_cases c : lateB dl dl[o[k]] j = true
          · rw [if_pos c] at he
            cases he
            exact ev_var rfl
          · rw [if_neg c] at he
            cases he
      · unfold nI
        congr 1
        induction o.drop k with
        | nil => rfl
        | cons a r ih =>
          rw [List.filterMap_cons, List.filter_cons]
          cases lateB dl dl[o[k]] a with
          | true =>
            rw [if_pos rfl]
            show _ :: _ = _
            rw [ih]
            rfl
          | false =>
            rw [if_neg Bool.false_ne_true]
            show List.filterMap _ r = _
            rw [ih]
            rfl
    refine sj_if (P := fun b Z' => b = !decide ((o.drop k).filter (lateB dl dl[o[k]]) = []) ∧ Z' = [.cell ps (.dict (storeK st)), .vers pr cs]) (et_ofT (EvT.cast (et_test (ev_op (EvN.ev lc) (EvN.ev (en_lst ea_nil (by simp))) (rv_neD (ok_ints _) (ok_ints [])))) ?_) ⟨rfl, rfl⟩) (fun Z1 ⟨hb, e⟩ => ?_) (fun Z1 ⟨hb, e⟩ => sj_next ?_)
    · rw [show (D.list []) = D.list (List.map D.int []) from rfl, eqvD_ints]
      congr 1
      exact decide_eq_decide.mpr ⟨fun h => List.map_eq_nil_iff.mp h, fun h => by rw [h]; rfl⟩
    · subst e
      have ne : ¬ (o.drop k).filter (lateB dl dl[o[k]]) = [] := by simpa using hb
      refine sj_ret (ej_ev ev_bl ⟨dl, vs, timed, o, false, rfl, rfl, fun h => (nomatch h), fun h => ?_⟩)
      exact absurd ((late_nil hm hd').mpr (timeOk_iff.mp (h.2.1 hT.symm) k hk)) ne
    · subst e
      have eq : (o.drop k).filter (lateB dl dl[o[k]]) = [] := by simpa using hb
      refine ⟨fun k' hk' => ?_, rfl, rfl⟩
      by_cases c : k' = k
      · subst c
        exact (late_nil hm hd').mp eq
      · exact oks k' (by omega)
  subst er ez
  have nc : (cs.map (·.1)).Nodup := by rw [← vr_names]; exact sim.nd
  refine sj_ret (ej_andV (Pa := fun d Z' => d = .bool (sameV (vrOf cs) vs) ∧ Z' = [.cell ps (.dict (storeK st)), .vers pr cs]) (ej_eqDD (k := 1) rfl rfl rfl nc G.kn ⟨rfl, rfl⟩) fun d Z1 ⟨e1, e2⟩ => ?_)
  subst e1 e2
  have sv := same_vers sim.nd G.kn sim.ne (fun p hp => (G.nm p hp).2.1)
  refine ⟨_, rfl, fun h => ?_, fun h => ⟨dl, vs, timed, o, false, rfl, rfl, fun z => (nomatch z), fun z => ?_⟩⟩
  · have h2 := sv.mp h
    have en : D.list ((List.range dl.length).filterMap fun x : Nat => some (D.int (x : Int))) = .list ((nI (List.range dl.length)).map .int) := by
      rw [List.filterMap_eq_map']
      unfold nI
      rw [List.map_map]
      rfl
    refine ej_ev (d := .bool true) (Ev.cast (ev_op (ev_sortedI (ev_var rfl) pm) (EvN.ev (EvN.cast (en_lc (List.range dl.length) (fun x : Nat => .int (x : Int)) (wk_range (ea_cons (Ev.cast (ev_lenL (ev_var rfl)) (by rw [List.length_map])) ea_nil) (by omega)) (fun x => some (.int (x : Int))) (by rw [List.length_range]; omega) (fun i d hd => ⟨_, _, tg_name, by decide, et_yes, fun e he => by
      cases he
      exact ev_var rfl⟩)) en)) (rv_eqD (ok_ints _) (ok_ints _))) ?_) ⟨dl, vs, timed, o, true, rfl, rfl, fun _ => ⟨sim.g, tok, fun n => by rw [← sim.v n, h2 n]⟩, fun _ => rfl⟩
    rw [eqvD_ints, decide_eq_true rfl]
  · have : sameV (vrOf cs) vs = true := sv.mpr fun n => by rw [sim.v n, z.2.2 n]
    rw [this] at h
    cases h
end
end Tk

set_option Elab.async false
set_option linter.all false
set_option maxRecDepth 100000
set_option maxHeartbeats 4000000
/-! E19: _law_right. -/
namespace Tk
open PySem PySem.Spec PyProof.Rows L2 Dm
theorem told_tag {dl : List (Dl Str)} {vs : Vr} {timed : Bool} {d : D} (h : Told dl vs timed d) : ∃ tag r, d = .tuple (.str tag :: r) ∧ (tag = ("order" : Str) ↔ ∃ ns, d = ordD ns) := by
  cases h with
  | lost _ => exact ⟨"lost", _, rfl, fun h => absurd h (by decide +kernel), fun ⟨ns, e⟩ => by
      unfold losD ordD at e
      injection e with e
      injection e with e1 _
      injection e1⟩
  | @order rs ns _ _ _ _ _ => exact ⟨"order", _, rfl, fun _ => ⟨ns, rfl⟩, fun _ => rfl⟩
  | ring _ _ _ _ _ _ _ => exact ⟨"ring", _, rfl, fun h => absurd h (by decide +kernel), fun ⟨ns, e⟩ => by
      unfold ringD ordD at e
      injection e with e
      injection e with e1 _
      injection e1⟩
section
variable {P : Program} {w : World} {K : PySem.W.Frag} {mg : Str → Option Value} {base : Heap}
theorem ev_stands {ρ : Ro} {ta : TA} {E : XK} {dl : List (Dl Str)} {vs : Vr} {timed : Bool} {o : List Nat} {b : Bool} (h : EvA ta ρ [.list (dl.map dealD), versD vs, .bool timed, .list ((nI o).map .int)]) (G : Good dl vs) (pm : o.Perm (List.range dl.length)) (hb : b = true ↔ Stands dl (vlOf vs) timed o) :
    Ev (tCall (CtJ pSt rSt) [] E ta) ρ (.bool b) :=
  (evp_callJ (P := fun d => d = .bool b) h ⟨dl, vs, timed, o, rfl, rfl, G, pm⟩ fun r Z' ⟨dl', vs', timed', o', b', e, er, hb'⟩ => ⟨.bool b, by
    injection e with e1 e
    injection e with e2 e
    injection e with e3 e
    injection e with e4 _
    injection e1 with e1
    injection e1 with e1
    injection e2 with e2
    injection e3 with e3
    injection e3 with e3
    injection e4 with e4
    injection e4 with e4
    have e1 := map_inj' (fun x y => dealD_inj) e1
    have e2 := versD_inj e2
    have e4 := nI_inj (map_inj' (fun x y h => by injection h) e4)
    subst e1 e2 e3 e4
    rw [er]
    have : b' = b := by
      have := hb'.trans hb.symm
      cases b' <;> cases b <;> simp_all
    rw [this], rfl⟩).ev
abbrev s__law_right : Stmt := topS 45
theorem sc__law_right : FnScope ["some", "versions", "turns", "timed", "is_bent", "told", "drawn"] ["some", "versions", "turns", "timed", "is_bent"] (defScope s__law_right) := ⟨rfl, rfl, rfl, by decide +kernel, rfl, by decide +kernel, by decide +kernel⟩
def pRt (ds : List D) : Prop := ∃ (dl : List (Dl Str)) (vs : Vr) (o : List Nat) (timed bent : Bool), ds = [.list (dl.map dealD), versD vs, .list ((nI o).map .int), .bool timed, .bool bent] ∧ Good dl vs ∧ o.Perm (List.range dl.length) ∧ (bent = false → Stands dl (vlOf vs) timed o)
def rRt (_ : List D) (r : D) : Prop := r = .bool true
theorem cal__law_right (F : DefAt K mg "_law_right" s__law_right ["some", "versions", "turns", "timed", "is_bent"]) (T : Bt mg) (C_judged_dealings : Cal P w K mg base "judged_dealings" ["dealings", "versions", "timed"] 6 (Ct pAll rJd)) (C_is_verdict : Cal P w K mg base "is_verdict" ["dealings", "versions", "timed", "told"] 6 (Ct pVd rVd)) (C__law_stands : Cal P w K mg base "_law_stands" ["some", "versions", "timed", "order"] 6 (CtJ pSt rSt)) : Cal P w K mg base "_law_right" ["some", "versions", "turns", "timed", "is_bent"] 7 (Ct pRt rRt) := by
  refine cal_data F sc__law_right (fun ds ⟨_, _, _, _, _, e, _⟩ => by rw [e]; rfl) (fun f cdv A outer s H E hr => ?_)
  have hu := hu_of hr
  refine ⟨_, (pss_cons (ps_set (i := 5) sc__law_right.nd rfl (.inl rfl) (pe_callC _ C_judged_dealings hr (pa_cons (pe_callTy call_list_of (by rfl) T.list_ (by decide +kernel) (pa_cons (pv 0) pa_nil)) (pa_cons (pv 1) (pa_cons (pv 3) pa_nil)))))
      (pss_cons (ps_if (pt_not (pt_val (pe_callC _ C_is_verdict hr (pa_cons (pe_callTy call_list_of (by rfl) T.list_ (by decide +kernel) (pa_cons (pv 0) pa_nil)) (pa_cons (pv 1) (pa_cons (pv 3) (pa_cons (pv 5) pa_nil))))))) (pss_one (ps_ret pe_bl)) pss_nil)
      (pss_cons (ps_set (i := 6) sc__law_right.nd rfl (.inl rfl) (pe_callC _ C_is_verdict hr (pa_cons (pe_callTy call_list_of (by rfl) T.list_ (by decide +kernel) (pa_cons (pv 0) pa_nil)) (pa_cons (pv 1) (pa_cons (pv 3) (pa_cons (pe_tup (pa_cons pe_str (pa_cons (pe_callTy call_list_of (by rfl) T.list_ (by decide +kernel) (pa_cons (pv 2) pa_nil)) pa_nil))) pa_nil))))))
      (pss_cons (ps_if (PW.pt (pw_or (pt_cmpR op_ne (pv 6) (pe_callC _ C__law_stands hr (pa_cons (pv 0) (pa_cons (pv 1) (pa_cons (pv 3) (pa_cons (pv 2) pa_nil))))) (nomark _)) (pw_or1 (PW.pt (pw_and (pt_val (pv 6)) (pw_and1 (pt_cmpR op_ne (pe_ix ix_tup (pv 5) pe_int (fun _ _ => rfl)) pe_str (nomark _)))))))) (pss_one (ps_ret pe_bl)) pss_nil)
      (pss_cons (ps_if (pt_cmpR op_eq (pe_ix ix_tup (pv 5) pe_int (fun _ _ => rfl)) pe_str (nomark _)) (pss_one (ps_ret (pe_callC _ C__law_stands hr (pa_cons (pv 0) (pa_cons (pv 1) (pa_cons (pv 3) (pa_cons (pe_ix ix_tup (pv 5) pe_int (fun _ _ => rfl)) pa_nil))))))) pss_nil)
      (pss_one (ps_ret (pv 4)))))))), fun ds ⟨dl, vs, o, timed, bent, e, G, pm, hs⟩ => ?_⟩
  subst e
  have o12 : (nI o).length ≤ 12 := by
    have := G.n12
    rw [nI_len, pm.length_eq, List.length_range]
    exact this
  refine sw_seq (sw_asgP (S := [5]) (evp_judged (dl := dl) (vs := vs) (timed := timed) (ea_cons (EvN.ev (en_list (ev_var rfl))) (ea_cons (ev_var rfl) (ea_cons (ev_var rfl) ea_nil))) G) fun d told => ⟨_, tg_name, ?_⟩)
  refine sw_seq (sw_if (et_not (et_val (ev_verdict (dl := dl) (vs := vs) (timed := timed) (told := d) (b := true) (ea_cons (EvN.ev (en_list (ev_var rfl))) (ea_cons (ev_var rfl) (ea_cons (ev_var rfl) (ea_cons (ev_var rfl) ea_nil)))) G (told_ask G told)))) (fun h => nomatch h) (fun _ => sw_next ?_))
  have hb := asks_iff (timed := timed) G pm
  refine sw_seq (sw_asg (ev_verdict (dl := dl) (vs := vs) (timed := timed) (told := ordD o) (ea_cons (EvN.ev (en_list (ev_var rfl))) (ea_cons (ev_var rfl) (ea_cons (ev_var rfl) (ea_cons (ev_tup (ea_cons ev_str (ea_cons (EvN.ev (en_list (ev_var rfl))) ea_nil)) (by simp)) ea_nil)))) G (.inr (.inl ⟨o, rfl, pm, rfl⟩))) ?_)
  have hb2 : decide (lostOf dl = none ∧ ∀ r ∈ allL dl vs timed, r.i ≠ r.j → o.idxOf r.i ≤ o.idxOf r.j) = true ↔ Stands dl (vlOf vs) timed o := by
    rw [decide_eq_true_eq]
    exact hb
  generalize decide (lostOf dl = none ∧ ∀ r ∈ allL dl vs timed, r.i ≠ r.j → o.idxOf r.i ≤ o.idxOf r.j) = b at hb2
  obtain ⟨tag, rest, ed, htag⟩ := told_tag told
  have tg : ∀ {ρ : Ro}, ρ[5]? = some (.im d) → Ev (tOp (rIxT K) (tVar 5) (tC (.int 0))) ρ (.str tag) := fun h => ev_op (ev_var (h.trans (by rw [ed]))) ev_int (rv_ixT (atI_nat (j := 0) rfl))
  refine sw_seq (sw_if (et_or (a := !decide (b = b)) (b := b && !decide (tag = ("order" : Str))) (et_test (ev_op (ev_var rfl) (ev_stands (ea_cons (ev_var rfl) (ea_cons (ev_var rfl) (ea_cons (ev_var rfl) (ea_cons (ev_var rfl) ea_nil)))) G pm hb2) rv_neB)) (fun _ => et_and (et_val (ev_var rfl)) (fun _ => et_test (ev_op (tg rfl) ev_str rv_neS)))) (fun h => ?_) (fun _ => sw_next ?_))
  · have h1 : (b && !decide (tag = ("order" : Str))) = true := by simpa using h
    have h2 := Bool.and_eq_true _ _ ▸ h1
    have st := hb2.mp h2.1
    have := htag.mpr (told_some G pm st told)
    rw [decide_eq_true this] at h2
    exact nomatch h2.2
  refine sw_seq (sw_if (et_test (ev_op (tg rfl) ev_str rv_eqS)) (fun h => ?_) (fun h => sw_next ?_))
  · obtain ⟨ns, e⟩ := htag.mp (of_decide_eq_true h)
    subst e
    obtain ⟨p1, s1⟩ := told_order G told
    exact sw_ret (ev_stands (b := true) (o := ns) (ea_cons (ev_var rfl) (ea_cons (ev_var rfl) (ea_cons (ev_var rfl) (ea_cons (ev_op (d := ordD ns) (ev_var rfl) ev_int (rv_ixT (atI_nat (j := 1) rfl))) ea_nil)))) G p1 ⟨fun _ => s1, fun _ => rfl⟩) rfl
  · have no := of_decide_eq_false h
    have : bent = true := by
      cases c : bent with
      | true => rfl
      | false => exact absurd (htag.mpr (told_some G pm (hs c) told)) no
    subst this
    exact sw_ret (ev_var rfl) rfl
end
end Tk

set_option Elab.async false
set_option linter.all false
set_option maxRecDepth 100000
set_option maxHeartbeats 4000000
/-! E20: rules for law. -/
namespace Tk
open PySem PySem.Spec PyProof.Rows L2 Dm
section
variable {ρ : Ro} {Z : Zs} {te ta : TE} {tr : TA} {t : TS} {Φ : PoJ} {K : PySem.W.Frag}
/-- versions become a datum for good -/
theorem EnvJ.thawV {B : Bs} {F : FS} {H : Hp} {σ : L2.St} {Z1 : Zs} {p : Addr} {cs : Cs} {i : Nat} (e : EnvJ B F H σ ρ (Z1 ++ [.vers p cs])) (hi : ρ[i]? = some (.ptr p)) : EnvJ B (withZ F [.vers p cs]) H σ (ρ.set i (.im (verD cs))) Z1 ∧ Fr F H (withZ F [.vers p cs]) H := by
  have v : H p = some (.dK (cs.map fun c => (.inr c.1, V.ref c.2.1))) ∧ ∀ c ∈ cs, H c.2.1 = some (.lst (c.2.2.map .int)) := e.z.at_ (.vers p cs) (by simp)
  have ein : ∀ a, a ∈ adrs [Res.vers p cs] ↔ a = p ∨ a ∈ cs.map (fun c : Str × Addr × List Int => c.2.1) := fun a => by
    unfold adrs
    rw [List.flatMap_cons, List.flatMap_nil, List.append_nil]
    exact List.mem_cons
  have pin : ∀ a ∈ adrs [Res.vers p cs], a ∈ adrs (Z1 ++ [.vers p cs]) := fun a ha => mem_adrs_app.mpr (.inr ha)
  have np : ∀ a ∈ adrs Z1, a ∉ adrs [Res.vers p cs] := fun a ha z => e.z.apart ha z
  have mo : Mo F H (withZ F [.vers p cs]) H := mo_with
  refine ⟨⟨⟨by rw [List.length_set]; exact e.e.len, fun j d' h => ?_, fun j d' h => ?_, fun j k d1 d2 q h => ?_, fun j a kds h => ?_, fun j a h => ?_, fun a f => ?_, fun a f => .inl (e.e.bf a f), e.e.bs, fun a f => ?_⟩, ⟨fun z hz => Res.to mo (e.z.at_ z (List.mem_append_left _ hz)) fun _ _ => rfl, fun a ha f => ?_, ?_⟩, fun a ha => e.nb a (mem_adrs_app.mpr (.inl ha)), fun j x h => ?_⟩, fun _ h => .inl h, fun _ _ => rfl⟩
  · by_cases c : i = j
    · subst c
      obtain ⟨q, _⟩ := get_set_self h
      cases q
      exact ⟨_, e.e.pt i p hi, p, _, rfl, .inr ((ein p).mpr (.inl rfl)), v.1, rp_ver fun c hc => ⟨.inr ((ein _).mpr (.inr (List.mem_map_of_mem (f := fun c : Str × Addr × List Int => c.2.1) hc))), v.2 c hc⟩⟩
    · rw [List.getElem?_set_ne c] at h
      obtain ⟨v, a, r⟩ := e.e.im j d' h
      exact ⟨v, a, Rp.mo mo _ _ r⟩
  · by_cases c : i = j
    · subst c
      exact nomatch (get_set_self h).1
    · rw [List.getElem?_set_ne c] at h
      exact (e.pl j _ h).elim
  · by_cases c : i = j
    · subst c
      exact nomatch (get_set_self h).1
    · rw [List.getElem?_set_ne c] at h
      exact (e.pl j _ h).elim
  · by_cases c : i = j
    · subst c
      exact nomatch (get_set_self h).1
    · rw [List.getElem?_set_ne c] at h
      exact (e.pl j _ h).elim
  · by_cases c : i = j
    · subst c
      exact nomatch (get_set_self h).1
    · rw [List.getElem?_set_ne c] at h
      exact e.e.pt j a h
  · rcases f with f | f
    · exact e.e.fh a f
    · exact e.z.there a (pin a f)
  · rcases f with f | f
    · exact e.e.bn a f
    · exact .inr (e.nb a (pin a f))
  · rcases f with f | f
    · exact e.z.nf a (mem_adrs_app.mpr (.inl ha)) f
    · exact np a ha f
  · have := e.z.nd
    unfold adrs at this ⊢
    rw [List.flatMap_append] at this
    exact (List.nodup_append.mp this).1
  · by_cases c : i = j
    · subst c
      rw [← (get_set_self h).1]
      exact True.intro
    · rw [List.getElem?_set_ne c] at h
      exact e.pl j x h
theorem sj_thawV {Z1 : Zs} {p : Addr} {cs : Cs} {i : Nat} (hi : ρ[i]? = some (.ptr p)) (pm : Z.Perm (Z1 ++ [.vers p cs])) (h : SwJ t (ρ.set i (.im (verD cs))) Z1 Φ) : SwJ t ρ Z Φ := fun B F H σ en Dn kn kr kb kc => by
  obtain ⟨en1, fr⟩ := EnvJ.thawV (Z1 := Z1) (en.perm pm.symm) hi
  exact h B _ H σ en1 Dn (fun ρ2 Z2 F2 H2 σ2 a b c => kn ρ2 Z2 F2 H2 σ2 a b (fr.trans c)) kr (fun ρ2 Z2 F2 H2 σ2 a b c => kb ρ2 Z2 F2 H2 σ2 a b (fr.trans c)) (fun ρ2 Z2 F2 H2 σ2 a b c => kc ρ2 Z2 F2 H2 σ2 a b (fr.trans c))
end
end Tk

set_option Elab.async false
set_option linter.all false
set_option maxRecDepth 100000
set_option maxHeartbeats 4000000
/-! E21: the worths that are written differ. -/
namespace Tk
open PySem PySem.Spec PyProof.Rows L2 Dm
theorem gW_cases {k c : Nat} (hk : k < 5) : gW k c = c ∨ gW k c = 0 - (c : Int) ∨ gW k c = (c : Int) * 9999991 ∨ gW k c = 10 ^ 9 + 1 - (c : Int) ∨ gW k c = (c : Int) - 1 - 10 ^ 9 := by
  match k, hk with
  | 0, _ => exact .inl rfl
  | 1, _ => exact .inr (.inl rfl)
  | 2, _ => exact .inr (.inr (.inl rfl))
  | 3, _ => exact .inr (.inr (.inr (.inl rfl)))
  | 4, _ => exact .inr (.inr (.inr (.inr rfl)))
theorem gW_inj {k k' c c' : Nat} (hk : k < 5) (hk' : k' < 5) (h1 : 1 ≤ c) (h2 : c ≤ 99) (h1' : 1 ≤ c') (h2' : c' ≤ 99) (h : gW k c = gW k' c') : c = c' := by
  rcases gW_cases (c := c) hk with a | a | a | a | a <;> rcases gW_cases (c := c') hk' with b | b | b | b | b <;> (rw [a, b] at h; omega)
theorem gW_ok {k c : Nat} (hk : k < 5) (h1 : 1 ≤ c) (h2 : c ≤ 99) : WorthOk (gW k c) ∧ gW k c ≠ 0 := by
  unfold WorthOk
  rcases gW_cases (c := c) hk with a | a | a | a | a <;> (rw [a]; omega)
end Tk

set_option Elab.async false
set_option linter.all false
set_option maxRecDepth 100000
set_option maxHeartbeats 4000000
/-! E22: what is dealt, done one by one. -/
namespace Tk
open PySem PySem.Spec PyProof.Rows L2 Dm
theorem Sim.run {N : List Str} {L : List (Dd Str)} {st st' : Sto} {vs vs' : Vr} {ds : List (Dd Str)} (h : Sim L st vs) (r : DoRun N st vs ds st' vs') : Sim (L ++ ds) st' vs' := by
  induction r with
  | nil => rw [List.append_nil]; exact h
  | @read l st' vs' n _ _ ih =>
    rw [← List.append_assoc]
    exact ih.read (x := ⟨false, n, stGet st' n⟩) rfl rfl
  | @write l st' vs' n k _ _ _ ih =>
    rw [← List.append_assoc]
    exact ih.write (x := ⟨true, n, gW k (1 + total vs')⟩) rfl
/-- the m-th worth that is written is of the count m + 1 -/
def WI (N : List Str) (L : List (Dd Str)) : Prop := (∀ (m : Nat) (n : Str) (v : Int), (wb L)[m]? = some (n, v) → ∃ k, k < 5 ∧ v = gW k (m + 1)) ∧ ∀ x ∈ L, x.n ∈ N
theorem WI.run {N : List Str} {L : List (Dd Str)} {st st' : Sto} {vs vs' : Vr} {ds : List (Dd Str)} (h : WI N L) (g : GOk st vs) (t : total vs = (wb L).length) (r : DoRun N st vs ds st' vs') : WI N (L ++ ds) ∧ total vs' = (wb (L ++ ds)).length := by
  induction r with
  | nil => rw [List.append_nil]; exact ⟨h, t⟩
  | @read l st' vs' n r hn ih =>
    obtain ⟨⟨a, b⟩, c⟩ := ih
    rw [← List.append_assoc]
    have e : wb ((L ++ l) ++ [(⟨false, n, stGet st' n⟩ : Dd Str)]) = wb (L ++ l) := by rw [wb_append]; exact List.append_nil _
    refine ⟨⟨by rw [e]; exact a, fun x hx => ?_⟩, by rw [e]; exact c⟩
    rcases List.mem_append.mp hx with z | z
    · exact b x z
    · rw [List.mem_singleton.mp z]
      exact hn
  | @write l st' vs' n k r hn hk ih =>
    obtain ⟨⟨a, b⟩, c⟩ := ih
    have g' := (r.ok g).1
    rw [← List.append_assoc]
    have e : wb ((L ++ l) ++ [(⟨true, n, gW k (1 + total vs')⟩ : Dd Str)]) = wb (L ++ l) ++ [(n, gW k (1 + total vs'))] := by rw [wb_append]; rfl
    refine ⟨⟨fun m n' v hm => ?_, fun x hx => ?_⟩, by rw [e, total_app g'.nd, c, List.length_append]; rfl⟩
    · rw [e] at hm
      by_cases q : m < (wb (L ++ l)).length
      · rw [List.getElem?_append_left q] at hm
        exact a m n' v hm
      · rw [List.getElem?_append_right (by omega)] at hm
        have hm0 : m - (wb (L ++ l)).length = 0 := by
          have := (List.getElem?_eq_some_iff.mp hm).1
          rw [List.length_singleton] at this
          omega
        rw [hm0] at hm
        cases hm
        exact ⟨k, hk, by rw [c, show m + 1 = 1 + (wb (L ++ l)).length from by omega]⟩
    · rcases List.mem_append.mp hx with z | z
      · exact b x z
      · rw [List.mem_singleton.mp z]
        exact hn
/-- all deeds, in the order of the turns -/
def deeds (l : List (Dl Str)) : List (Dd Str) := l.flatMap Dl.ds
theorem Gen.sim {N : List Str} {tm : Int} {l : List (Dl Str)} {st : Sto} {vs : Vr} (h : Gen N tm l st vs) : Sim (deeds l) st vs ∧ WI N (deeds l) ∧ total vs = (wb (deeds l)).length := by
  induction h with
  | nil => exact ⟨Sim.nil, ⟨(fun m n v h => nomatch h), (fun x h => nomatch h)⟩, rfl⟩
  | @step l st st' vs vs' ds u v g r _ _ _ _ _ ih =>
    obtain ⟨a, b, c⟩ := ih
    have e : deeds (l ++ [⟨bgn l.length u tm, ndn l.length v tm, ds⟩]) = deeds l ++ ds := by
      unfold deeds
      rw [List.flatMap_append, List.flatMap_singleton]
    rw [e]
    obtain ⟨b', c'⟩ := b.run g.ok.1 c r
    exact ⟨a.run r, b', c'⟩
end Tk

set_option Elab.async false
set_option linter.all false
set_option maxRecDepth 100000
set_option maxHeartbeats 4000000
/-! E23: by number. -/
namespace Tk
open PySem PySem.Spec PyProof.Rows L2 Dm
theorem spread_len (t : List Nat) (l : List (Dl Str)) : (spread t l).length = t.length := by
  unfold spread
  rw [List.length_map, List.length_range]
theorem spread_at {t : List Nat} {l : List (Dl Str)} (hl : l.length = t.length) (pm : t.Perm (List.range t.length)) {a m : Nat} {d : Dl Str} (hm : t[a]? = some m) (hd : l[a]? = some d) : (spread t l)[m]? = some d := by
  have ha := (List.getElem?_eq_some_iff.mp hm).1
  have mt : m ∈ t := List.mem_of_getElem? hm
  have mlt : m < t.length := List.mem_range.mp (pm.mem_iff.mp mt)
  have nd : t.Nodup := pm.nodup_iff.mpr List.nodup_range
  have hi : t.idxOf m = a := by
    have h1 := List.idxOf_lt_length_iff.mpr mt
    have h2 : t[t.idxOf m]? = some m := by rw [List.getElem?_eq_getElem h1, List.getElem_idxOf h1]
    exact (List.getElem?_inj h1 nd).mp (h2.trans hm.symm)
  unfold spread
  rw [List.getElem?_map, List.getElem?_range mlt]
  show some ((l[t.idxOf m]?).getD dl0) = _
  rw [hi, hd]
  rfl
theorem seq_spread {t : List Nat} {l : List (Dl Str)} (hl : l.length = t.length) (pm : t.Perm (List.range t.length)) : seq (spread t l) t = deeds l := by
  unfold seq deeds
  rw [List.flatMap_def, List.flatMap_def]
  congr 1
  refine List.ext_getElem? fun a => ?_
  rw [List.getElem?_map, List.getElem?_map]
  by_cases c : a < t.length
  · have h1 : t[a]? = some t[a] := List.getElem?_eq_getElem c
    have h2 : l[a]? = some (l[a]'(by omega)) := List.getElem?_eq_getElem (by omega)
    rw [h1, h2]
    exact congrArg some (dsOf_get (spread_at hl pm h1 h2))
  · rw [List.getElem?_eq_none (by omega), List.getElem?_eq_none (by omega)]
    rfl
end Tk

set_option Elab.async false
set_option linter.all false
set_option maxRecDepth 100000
set_option maxHeartbeats 4000000
/-! E24: worths written once. -/
namespace Tk
open PySem PySem.Spec PyProof.Rows L2 Dm
theorem WI.nodup {N : List Str} {L : List (Dd Str)} (h : WI N L) (hl : (wb L).length ≤ 98) : ((wb L).map (·.2)).Nodup := by
  refine List.pairwise_iff_getElem.mpr fun i j hi hj hij e => ?_
  rw [List.length_map] at hi hj
  have h1 : (wb L)[i]? = some (wb L)[i] := List.getElem?_eq_getElem hi
  have h2 : (wb L)[j]? = some (wb L)[j] := List.getElem?_eq_getElem hj
  rw [List.getElem_map, List.getElem_map] at e
  obtain ⟨k, hk, ek⟩ := h.1 i _ _ h1
  obtain ⟨k', hk', ek'⟩ := h.1 j _ _ h2
  have := gW_inj hk hk' (Nat.succ_pos i) (by omega) (Nat.succ_pos j) (by omega) (ek.symm.trans (e.trans ek'))
  omega
theorem WI.worth {N : List Str} {L : List (Dd Str)} (h : WI N L) (hl : (wb L).length ≤ 98) {p : Str × Int} (hp : p ∈ wb L) : WorthOk p.2 ∧ p.2 ≠ 0 := by
  obtain ⟨i, hi, e⟩ := List.getElem_of_mem hp
  obtain ⟨k, hk, ek⟩ := h.1 i p.1 p.2 (by rw [List.getElem?_eq_getElem hi, e])
  rw [ek]
  exact gW_ok hk (Nat.succ_pos i) (by omega)
end Tk

set_option Elab.async false
set_option linter.all false
set_option maxRecDepth 100000
set_option maxHeartbeats 4000000
/-! E25: times. -/
namespace Tk
open PySem PySem.Spec PyProof.Rows L2 Dm
theorem bgn_lt {a b : Nat} {u v tm : Int} (ht : 1 ≤ tm) (hab : b ≤ a) (u0 : 0 ≤ u) (v0 : 0 ≤ v) : bgn b u tm < ndn a v tm := by
  unfold bgn ndn
  refine Int.mul_lt_mul_of_pos_right ?_ (by omega)
  by_cases c : 10 * (b : Int) - u > 0
  · rw [if_pos c]; omega
  · rw [if_neg c]; omega
theorem bgn_0 {b : Nat} {u tm : Int} (ht : 1 ≤ tm) : 0 ≤ bgn b u tm := by
  unfold bgn
  refine Int.mul_nonneg ?_ (by omega)
  by_cases c : 10 * (b : Int) - u > 0
  · rw [if_pos c]; omega
  · rw [if_neg c]; decide
theorem tms_top {tm : Int} (h : tm ∈ Tms) : tm ≤ 10 ^ 50 := by
  rcases List.mem_cons.mp h with z | h
  · rw [z]; decide
  rcases List.mem_cons.mp h with z | h
  · rw [z]; decide
  rcases List.mem_cons.mp h with z | h
  · rw [z]; decide
  rcases List.mem_cons.mp h with z | h
  · rw [z]; decide
  rcases List.mem_cons.mp h with z | h
  · rw [z]; decide
  cases h
theorem ndn_top {a : Nat} {v tm : Int} (h : tm ∈ Tms) (ha : a ≤ 12) (v0 : 0 ≤ v) (v1 : v < 25) : ndn a v tm ≤ 10 ^ 60 := by
  have t := tms_top h
  have t1 := (tms_big h).1
  unfold ndn
  have : (10 * (a : Int) + 1 + v) * tm ≤ 200 * tm := Int.mul_le_mul_of_nonneg_right (by omega) (by omega)
  omega
end Tk

set_option Elab.async false
set_option linter.all false
set_option maxRecDepth 100000
set_option maxHeartbeats 4000000
/-! E26: dealings by place. -/
namespace Tk
open PySem PySem.Spec PyProof.Rows L2 Dm
theorem Gen.at {N : List Str} {tm : Int} {l : List (Dl Str)} {st : Sto} {vs : Vr} (h : Gen N tm l st vs) : ∀ (a : Nat) (d : Dl Str), l[a]? = some d → ∃ u v : Int, d.b = bgn a u tm ∧ d.e = ndn a v tm ∧ 0 ≤ u ∧ 0 ≤ v ∧ v < 25 ∧ d.ds.length ≤ 4 := by
  induction h with
  | nil => exact fun a d h => by simp at h
  | @step l st st' vs vs' ds u v g r h4 u0 u1 v0 v1 ih =>
    intro a d hd
    by_cases c : a < l.length
    · rw [List.getElem?_append_left c] at hd
      exact ih a d hd
    · rw [List.getElem?_append_right (by omega)] at hd
      have := (List.getElem?_eq_some_iff.mp hd).1
      rw [List.length_singleton] at this
      have e : a = l.length := by omega
      subst e
      rw [Nat.sub_self] at hd
      cases hd
      exact ⟨u, v, rfl, rfl, u0, v0, v1, h4⟩
end Tk

set_option Elab.async false
set_option linter.all false
set_option maxRecDepth 100000
set_option maxHeartbeats 4000000
/-! E27: what is read was written. -/
namespace Tk
open PySem PySem.Spec PyProof.Rows L2 Dm
theorem wb_snoc (L : List (Dd Str)) (x : Dd Str) : wb (L ++ [x]) = if x.w = true then wb L ++ [(x.n, x.v)] else wb L := by
  rw [wb_append]
  unfold wb
  rw [List.filterMap_cons, List.filterMap_nil]
  by_cases c : x.w = true
  · rw [if_pos c, if_pos c]
  · rw [if_neg c, if_neg c, List.append_nil]
theorem aft_mem : ∀ (n : Nat) (L : List (Dd Str)), L.length = n → ∀ m, aft zr L m = 0 ∨ (m, aft zr L m) ∈ wb L
  | 0, L, h, m => by
    have : L = [] := List.length_eq_zero_iff.mp h
    subst this
    exact .inl rfl
  | n + 1, L, h, m => by
    have ne : L ≠ [] := fun z => by rw [z] at h; cases h
    have e : L = L.dropLast ++ [L.getLast ne] := (List.dropLast_concat_getLast ne).symm
    have ih := aft_mem n L.dropLast (by rw [List.length_dropLast, h]; rfl) m
    rw [e, aft_snoc, wb_snoc]
    generalize L.getLast ne = x
    generalize L.dropLast = l at ih
    by_cases c : x.w = true
    · rw [if_pos c, if_pos c]
      show (if m = x.n then x.v else aft zr l m) = 0 ∨ (m, if m = x.n then x.v else aft zr l m) ∈ _
      by_cases q : m = x.n
      · rw [if_pos q, q]
        exact .inr (List.mem_append_right _ (.head _))
      · rw [if_neg q]
        exact ih.imp id fun z => List.mem_append_left _ z
    · rw [if_neg c, if_neg c]
      exact ih
end Tk

set_option Elab.async false
set_option linter.all false
set_option maxRecDepth 100000
set_option maxHeartbeats 4000000
/-! E28: the deeds are as they shall be. -/
namespace Tk
open PySem PySem.Spec PyProof.Rows L2 Dm
theorem wb_of {L : List (Dd Str)} {x : Dd Str} (hx : x ∈ L) (c : x.w = true) : (x.n, x.v) ∈ wb L := List.mem_filterMap.mpr ⟨x, hx, by rw [if_pos c]⟩
theorem deeds_ok {N : List Str} {L : List (Dd Str)} (g : go zr L = true) (wi : WI N L) (hl : (wb L).length ≤ 98) (hN : ∀ n ∈ N, NameOk n) : ∀ x ∈ L, DeedOk x := fun x hx => by
  refine ⟨hN _ (wi.2 x hx), ?_, fun hw => (wi.worth hl (wb_of hx hw)).2⟩
  by_cases c : x.w = true
  · exact (wi.worth hl (wb_of hx c)).1
  · obtain ⟨l1, l2, e⟩ := List.append_of_mem hx
    have e2 : L = (l1 ++ [x]) ++ l2 := by rw [e, List.append_assoc]; rfl
    have g1 : go zr (l1 ++ [x]) = true := by
      rw [e2, go_append] at g
      exact (Bool.and_eq_true _ _ ▸ g).1
    rw [go_snoc] at g1
    have g2 := (Bool.and_eq_true _ _ ▸ g1).2
    rw [Bool.or_eq_true] at g2
    have v : aft zr l1 x.n = x.v := g2.elim (fun z => absurd z c) of_decide_eq_true
    rcases aft_mem _ l1 rfl x.n with z | z
    · rw [← v, z]
      exact ⟨by decide, by decide⟩
    · rw [v] at z
      have m : (x.n, x.v) ∈ wb L := by
        rw [e, wb_append]
        exact List.mem_append_left _ z
      exact (wi.worth hl m).1
end Tk

set_option Elab.async false
set_option linter.all false
set_option maxRecDepth 100000
set_option maxHeartbeats 4000000
/-! E29: what is dealt is good. -/
namespace Tk
open PySem PySem.Spec PyProof.Rows L2 Dm
theorem ofN_sub (n : Str) : ∀ l : List (Str × Int), (l.filterMap (ofN n)).Sublist (l.map (·.2))
  | [] => List.Sublist.refl _
  | p :: l => by
    rw [List.filterMap_cons, List.map_cons]
    unfold ofN
    by_cases c : p.1 = n
    · rw [if_pos c]
      exact (ofN_sub n l).cons_cons p.2
    · rw [if_neg c]
      exact (ofN_sub n l).cons p.2
theorem sub_flat {α β : Type} (f : α → List β) : ∀ {l : List α} {a : α}, a ∈ l → (f a).Sublist (l.flatMap f)
  | x :: l, a, h => by
    rw [List.flatMap_cons]
    rcases List.mem_cons.mp h with z | z
    · rw [z]
      exact List.sublist_append_left _ _
    · exact (sub_flat f z).trans (List.sublist_append_right _ _)
theorem Gen.good {N : List Str} {tm : Int} {t : List Nat} {l : List (Dl Str)} {st : Sto} {vs : Vr} (h : Gen N tm l st vs) (hl : l.length = t.length) (t1 : 1 ≤ t.length) (t12 : t.length ≤ 12) (pm : t.Perm (List.range t.length)) (htm : tm ∈ Tms) (hN : ∀ n ∈ N, NameOk n) : Good (spread t l) vs := by
  obtain ⟨sim, wi, tot⟩ := h.sim
  have at_ := h.at
  have l48 : (deeds l).length ≤ 48 := by
    have key : ∀ l : List (Dl Str), (∀ d ∈ l, d.ds.length ≤ 4) → (deeds l).length ≤ 4 * l.length := fun l => by
      induction l with
      | nil => intro _; exact Nat.le_refl _
      | cons d r ih =>
        intro h
        have := ih fun x hx => h x (.tail _ hx)
        have h4 := h d (.head _)
        unfold deeds at this ⊢
        rw [List.flatMap_cons, List.length_append, List.length_cons]
        omega
    have := key l fun d hd => by
      obtain ⟨i, hi, e⟩ := List.getElem_of_mem hd
      obtain ⟨_, _, _, _, _, _, _, h4⟩ := at_ i d (by rw [List.getElem?_eq_getElem hi, e])
      exact h4
    omega
  have w48 : (wb (deeds l)).length ≤ 98 := Nat.le_trans (List.length_filterMap_le _ _) (by omega)
  have dok := deeds_ok sim.g wi w48 hN
  have sl := spread_len t l
  have sq := seq_spread hl pm
  have wnd : ∀ n, (wn n (deeds l)).Nodup := fun n => by
    rw [wn_wb]
    exact (wi.nodup w48).sublist (ofN_sub n _)
  have wok : ∀ n v, v ∈ wn n (deeds l) → WorthOk v ∧ v ≠ 0 := fun n v hv => by
    rw [wn_wb] at hv
    obtain ⟨p, hp, e⟩ := List.mem_map.mp ((ofN_sub n _).subset hv)
    rw [← e]
    exact wi.worth w48 hp
  have all_ : ∀ n, ((List.range (spread t l).length).flatMap fun i => wn n (dsOf (spread t l) i)).Perm (wn n (deeds l)) := fun n => by
    rw [sl, ← sq]
    unfold seq
    rw [wn_flat]
    exact (pm.flatMap_right _).symm
  have own_ : ∀ i n, (wn n (dsOf (spread t l) i)).Sublist (wn n (deeds l)) := fun i n => by
    rw [← sq]
    unfold seq
    rw [wn_flat]
    by_cases c : i ∈ t
    · exact sub_flat (fun i => wn n (dsOf (spread t l) i)) c
    · have : dsOf (spread t l) i = [] := by
        unfold dsOf
        rw [List.getElem?_eq_none]
        · rfl
        · rw [sl]
          exact Nat.le_of_not_lt fun z => c (pm.mem_iff.mpr (List.mem_range.mpr z))
      rw [this]
      exact List.nil_sublist _
  have pl : ∀ d ∈ spread t l, ∃ a, l[a]? = some d ∧ a < t.length := fun d hd => by
    unfold spread at hd
    obtain ⟨k, hk, e⟩ := List.mem_map.mp hd
    have hk2 : k ∈ t := pm.mem_iff.mpr hk
    have hi := List.idxOf_lt_length_iff.mpr hk2
    refine ⟨t.idxOf k, ?_, hi⟩
    have h2 : l[t.idxOf k]? = some (l[t.idxOf k]'(by omega)) := List.getElem?_eq_getElem (by omega)
    rw [h2] at e ⊢
    rw [← e]
    rfl
  refine ⟨by rw [sl]; exact t1, by rw [sl]; exact t12, fun d hd => ?_, sim.nd, fun p hp => ?_, by have := sim.vl; omega, ⟨fun n => by rw [sim.v]; exact wnd n, fun n c => ?_, fun n => by rw [sim.v]; exact all_ n, fun i n => by rw [sim.v]; exact own_ i n⟩, ?_⟩
  · obtain ⟨a, ha, hat⟩ := pl d hd
    obtain ⟨u, v, eb, ee, u0, v0, v1, h4⟩ := at_ a d ha
    refine ⟨by rw [eb]; exact bgn_0 (tms_big htm).1, by rw [eb, ee]; exact bgn_lt (tms_big htm).1 (Nat.le_refl _) u0 v0, by rw [ee]; exact ndn_top htm (by omega) v0 v1, fun x hx => dok x ?_, h4⟩
    unfold deeds
    exact List.mem_flatMap.mpr ⟨d, List.mem_of_getElem? ha, hx⟩
  · have e : p.2 = wn p.1 (deeds l) := by rw [← sim.v, (vlOf_mem sim.nd hp).2]
    have ne := sim.ne p hp
    have len := sim.ll p hp
    refine ⟨?_, ne, by omega, by rw [e]; exact wnd _, fun v hv => wok p.1 v (e ▸ hv)⟩
    cases c : p.2 with
    | nil => exact absurd c ne
    | cons v r =>
      have hv : v ∈ wn p.1 (deeds l) := by rw [← e, c]; exact .head _
      obtain ⟨x, hx, _, hn, _⟩ := mem_wn.mp hv
      rw [← hn]
      exact (dok x hx).1
  · rw [sim.v] at c
    exact (wok n 0 c).2 rfl
  · show total vs = _
    rw [tot]
    have e1 : allW (spread t l) = (List.range (spread t l).length).flatMap fun i => wb (dsOf (spread t l) i) := by
      unfold allW
      exact (flat_range (fun d : Dl Str => wb d.ds) (spread t l) _ fun i d h => by rw [dsOf_get h]).symm
    have e2 : wb (deeds l) = t.flatMap fun i => wb (dsOf (spread t l) i) := by
      rw [← sq]
      unfold seq wb
      rw [List.filterMap_flatMap]
    rw [e1, e2, sl]
    exact (pm.flatMap_right _).length_eq
end Tk

set_option Elab.async false
set_option linter.all false
set_option maxRecDepth 100000
set_option maxHeartbeats 4000000
/-! E30: the order of the turns stands. -/
namespace Tk
open PySem PySem.Spec PyProof.Rows L2 Dm
theorem Gen.stands {N : List Str} {tm : Int} {t : List Nat} {l : List (Dl Str)} {st : Sto} {vs : Vr} (h : Gen N tm l st vs) (hl : l.length = t.length) (pm : t.Perm (List.range t.length)) (htm : tm ∈ Tms) (timed : Bool) : Stands (spread t l) (vlOf vs) timed t := by
  obtain ⟨sim, _, _⟩ := h.sim
  have sq := seq_spread hl pm
  refine ⟨by rw [sq]; exact sim.g, fun _ => timeOk_iff.mpr fun k hk m hm j hj d d' hd hd' lt => ?_, fun n => by rw [sq]; exact (sim.v n).symm⟩
  obtain ⟨i, hi, e⟩ := List.getElem_of_mem hj
  rw [List.length_drop] at hi
  have hj2 : t[k + i]? = some j := by
    rw [List.getElem_drop] at e
    rw [List.getElem?_eq_getElem (by omega), e]
  have h1 : l[k + i]? = some (l[k + i]'(by omega)) := List.getElem?_eq_getElem (by omega)
  have h2 : l[k]? = some (l[k]'(by omega)) := List.getElem?_eq_getElem (by omega)
  have s1 := spread_at hl pm hj2 h1
  have s2 := spread_at hl pm hm h2
  have q1 := Option.some.inj (hd.symm.trans s1)
  have q2 := Option.some.inj (hd'.symm.trans s2)
  obtain ⟨u, v, _, ee, u0, v0, _, _⟩ := h.at _ _ h1
  obtain ⟨u', v', eb, _, u0', v0', _, _⟩ := h.at _ _ h2
  rw [q1, q2, ee, eb] at lt
  have := bgn_lt (a := k + i) (b := k) (u := u') (v := v) (tms_big htm).1 (Nat.le_add_right _ _) u0' v0
  omega
end Tk

set_option Elab.async false
set_option linter.all false
set_option maxRecDepth 100000
set_option maxHeartbeats 4000000
/-! E31: law. -/
namespace Tk
open PySem PySem.Spec PyProof.Rows L2 Dm
section
variable {ρ : Ro} {Z : Zs} {te ta : TE} {tr : TA} {t : TS} {g : TG} {wi : TI} {Φ : PoJ} {K : PySem.W.Frag} {Pre : List A → Zs → Prop} {R : List A → Zs → A → Zs → Prop} {E : XK}
/-- x = _law_jar(..) -/
theorem sj_asgJar {i : Nat} {c : Int} (h : EvA tr ρ [.int c]) (q : ∀ p x f, JarOk x f → Φ.nx (ρ.set i (.ptr p)) (Z ++ [.cell p (jarD x f)])) : SwJ (tAsg (tCall (CtN pJar rJar) [] E tr) (gName i)) ρ Z Φ := fun B F H σ en Dn kn kr kb kc =>
  enp_jar h B F H σ en.e _ fun p F1 H1 x f ok hp g1 nf m => by
    have en1 := (en.gw g1).add (p := p) (d := jarD x f) (fun z => en.z.there p z hp) nf (en.e.bs.free hp) m
    exact kn _ _ F1 H1 _ (q p x f ok) (en1.setP i p) (g1.fr en.e.fh)
/-- x, y, z = a call's tuple of two objects and a datum -/
theorem sj_asgT {i j k : Nat} {Pa : List A → Zs → Prop} (ha : EaJ tr ρ Z Pa) (hc : ∀ es Z1, Pa es Z1 → ∃ Z0 Zr, Z1.Perm (Z0 ++ Zr) ∧ Pre es Z0 ∧ ∀ r Z', R es Z0 r Z' → ∃ (L pv : Addr) (d : D) (Zf : Zs), r = .t L pv d ∧ Zf.Perm (Z' ++ Zr) ∧ Φ.nx (((ρ.set i (.ptr L)).set j (.ptr pv)).set k (.im d)) Zf) :
    SwJ (tAsg (tCall (CtJ Pre R) [] E tr) (gTup K 3 (gCons (gName i) (gCons (gName j) (gCons (gName k) gNil))))) ρ Z Φ := fun B F H σ en Dn kn kr kb kc =>
  ej_callA (PA := fun r Z' => ∃ (L pv : Addr) (d : D), r = .t L pv d ∧ Φ.nx (((ρ.set i (.ptr L)).set j (.ptr pv)).set k (.im d)) Z') ha (fun es Z1 p1 => by
    obtain ⟨Z0, Zr, pm, pre, hR⟩ := hc es Z1 p1
    refine ⟨Z0, Zr, pm, pre, fun r Z' hr => ?_⟩
    obtain ⟨L, pv, d, Zf, e, pf, p⟩ := hR r Z' hr
    exact ⟨Zf, pf, L, pv, d, e, p⟩) B F H σ en _ fun r v F' H' Z' ⟨L, pv, d, e, p⟩ en' fr rv => by
    subst e
    obtain ⟨T, x, rfl, hT, rx⟩ := rv
    exact ⟨T, _, rfl, SqT.of hT, rfl, _, _, rfl, _, _, rfl, _, _, rfl, rfl, kn _ Z' F' H' _ p (((en'.setP i L).setP j pv).set k rx) fr⟩
/-- a call for its changes alone -/
theorem sj_dropA {Pa : List A → Zs → Prop} (ha : EaJ tr ρ Z Pa) (hc : ∀ es Z1, Pa es Z1 → ∃ Z0 Zr, Z1.Perm (Z0 ++ Zr) ∧ Pre es Z0 ∧ ∀ r Z', R es Z0 r Z' → ∃ (Zf : Zs), Zf.Perm (Z' ++ Zr) ∧ Φ.nx ρ Zf) :
    SwJ (tDrop (tCall (CtJ Pre R) [] E tr)) ρ Z Φ := fun B F H σ en Dn kn kr kb kc =>
  ej_callA (PA := fun _ Z' => Φ.nx ρ Z') ha hc B F H σ en _ fun r v F' H' Z' p en' fr _ => kn ρ Z' F' H' σ p en' fr
/-- a loop where it is known what its rows are at this place -/
theorem sj_forAt (vs : List Nat) {P : List D → Zs → Prop} {B : Bs} {F : FS} {H : Hp} {σ : L2.St} (hw : ∀ R : It → Hp → Prop, (∀ ds J F' H' Z', P ds Z' → EnvJ B F' H' σ ρ Z' → Fr F H F' H' → WkJ J ds F' H' → R J H') → wi σ H R)
    (h : ∀ ds Z1, P ds Z1 → ∃ I : Nat → Ro → Zs → Prop, I 0 (wipeE ρ vs) Z1 ∧
    (∀ (i : Nat) (d : D) ρ' Z', ds[i]? = some d → I i ρ' Z' → ∃ ρ2, TgJ g d ρ' ρ2 ∧ SwJ t ρ2 Z' { Φ with nx := fun ρ3 Z3 => I (i + 1) (wipeE ρ3 vs) Z3, ct := fun ρ3 Z3 => I (i + 1) (wipeE ρ3 vs) Z3, bk := Φ.nx }) ∧ ∀ ρ' Z', I ds.length ρ' Z' → Φ.nx ρ' Z')
    (Dn : Ends) (kn : ∀ ρ' Z' F' H' σ', Φ.nx ρ' Z' → EnvJ B F' H' σ' ρ' Z' → Fr F H F' H' → Dn.nx σ' H')
    (kr : ∀ r v F' H' Z', Φ.rt r Z' → Gw B.F B.H F' H' → ZOk F' H' Z' → (∀ a ∈ adrs Z', B.H a = none) → RpA F' H' r v → Dn.rt v H') : tFor wi g t Dn σ H :=
  hw _ fun ds J F1 H1 Z1 p en1 fr0 W => by
    obtain ⟨I, h0, hs, hd⟩ := h ds Z1 p
    refine ⟨fun i m σ' H' => m = ds.length - i ∧ i ≤ ds.length ∧ ∃ ρ' Z' F', I i ρ' Z' ∧ EnvJ B F' H' σ' ρ' Z' ∧ Fr F1 H1 F' H', ⟨_, rfl, Nat.zero_le _, _, Z1, F1, h0, en1.forget vs, Fr.refl⟩, ?_⟩
    rintro i m σ' H' ⟨rfl, hi, ρ', Z', F', inv, en', fr⟩
    by_cases c : i < ds.length
    · refine .inr ⟨W.go i F' H' c fr, fun σ2 H2 => ∃ ρ2 Z2 F2, I (i + 1) ρ2 Z2 ∧ EnvJ B F2 H2 σ2 ρ2 Z2 ∧ Fr F1 H1 F2 H2, fun σ2 H2 ⟨ρ2, Z2, F2, a, b, e⟩ => ⟨ds.length - (i + 1), by omega, rfl, c, ρ2, Z2, F2, a, b, e⟩, fun x H2 y => ?_⟩
      obtain ⟨F2, d, g2, hd2, r2⟩ := W.yld i F' H' x H2 c fr en'.e.fh y
      obtain ⟨ρ2, ⟨S, tg, pl⟩, sw⟩ := hs i d ρ' Z' hd2 inv
      have en2 := en'.gw g2
      have fr2 := fr.trans (g2.fr en'.e.fh)
      exact tg B F2 H2 σ' x en2.e r2 _ fun σ3 en3 _ _ => sw B F2 H2 σ3 ⟨en3, en2.z, en2.nb, fun j x h => (pl j x h).elim id fun q => en2.pl j x q⟩ _ (fun ρ4 Z4 F4 H4 σ4 a b e => ⟨_, Z4, F4, a, b.forget vs, fr2.trans e⟩) kr
        (fun ρ4 Z4 F4 H4 σ4 a b e => kn ρ4 Z4 F4 H4 σ4 a b ((fr0.trans fr2).trans e)) (fun ρ4 Z4 F4 H4 σ4 a b e => ⟨_, Z4, F4, a, b.forget vs, fr2.trans e⟩)
    · have e : i = ds.length := by omega
      subst e
      exact .inl ⟨W.stop F' H' fr, kn ρ' Z' F' H' σ' (hd ρ' Z' inv) en' (fr0.trans fr)⟩
theorem sq_ext {H H' : Hp} {a : Addr} {xs : List V} (h : SqL K H a xs) (e : Same H H') : SqL K H' a xs :=
  Or.elim h (fun h => .inl (Or.elim h (fun h => .inl (e _ _ h)) fun ⟨o, h⟩ => .inr ⟨o, e _ _ h⟩)) fun h => .inr h
/-- [0, 1] + script[:12] -/
theorem wj_script {B : Bs} {F : FS} {H : Hp} {σ : L2.St} {a : Addr} {ns : List Int} (en : EnvJ B F H σ ρ Z) (h0 : ρ[0]? = some (.ptr a)) (hS : SqL K H a (ns.map V.int)) (Q : It → Hp → Prop)
    (k : ∀ (cs : List Int) J F' H', EnvJ B F' H' σ ρ Z → Fr F H F' H' → WkJ J (cs.map .int) F' H' → Q J H') :
    iList K (tOp rCat (tLst (tCons (tC (.int 0)) (tCons (tC (.int 1)) tNil))) (tSl (rSlL K) (tVar 0) tNoPart (tPart (tC (.int 12))))) σ H Q := by
  show tLst (tCons (tC (.int 0)) (tCons (tC (.int 1)) tNil)) σ H (fun x H1 => tSl (rSlL K) (tVar 0) tNoPart (tPart (tC (.int 12))) σ H1 fun y H2 => rCat x y H2 _)
  refine (en_lst (ds := [.int 0, .int 1]) (ea_cons ev_int (ea_cons ev_int ea_nil)) (by simp)) B F H σ en.e _ fun p1 F1 H1 hp1 g1 nf1 m1 => ?_
  obtain ⟨xs, hx, rx⟩ := m1
  refine ⟨.ref a, en.e.pt 0 a h0, 12, rfl, a, ns.map V.int, rfl, sq_ext hS g1.s, fun p2 hp2 => ?_⟩
  have rz : Rps F1 H1 ((ns.map D.int).take 12) (cutV (ns.map V.int) none (some 12)) := by
    have := (Rps.of_ints (F := F1) (H := H1) ns).cut none (some ((12 : Nat) : Int))
    rw [cut_take] at this
    exact this
  have g2 : Gw F1 H1 F1 (upd H1 p2 (.lst (cutV (ns.map V.int) none (some 12)))) := gw_upd g1.h hp2
  refine ⟨p1, p2, xs, _, rfl, rfl, g2.s _ _ hx, upd_same, big_ok (by rw [rx.len, rz.len, List.length_take, List.length_map]; show 2 + _ ≤ _; omega), fun p3 hp3 => ?_⟩
  have g3 := Gw.new (o := .lst (xs ++ cutV (ns.map V.int) none (some 12))) g2.h hp3
  have g := (g1.trans g2).trans g3
  have e : ([.int 0, .int 1] ++ (ns.map D.int).take 12 : List D) = (0 :: 1 :: ns.take 12).map .int := by rw [List.map_cons, List.map_cons, List.map_take]; rfl
  have ra := ((rx.gw g2).append (rz.gw g2)).gw g3
  rw [e] at ra
  refine ⟨p3, rfl, ⟨_, SqL.of upd_same⟩, k (0 :: 1 :: ns.take 12) _ _ _ (en.gw g) (g.fr en.e.fh) ?_⟩
  have fa : addF F1 p3 p3 := .inr rfl
  generalize hA : upd (upd H1 p2 (.lst (cutV (ns.map V.int) none (some 12)))) p3 (.lst (xs ++ cutV (ns.map V.int) none (some 12))) = HA at *
  have ha : HA p3 = some (.lst (xs ++ cutV (ns.map V.int) none (some 12))) := by rw [← hA]; exact upd_same
  refine ⟨fun i F2 H2 hi fr => ?_, fun F2 H2 fr => ?_, fun i F2 H2 x H' hi fr hF y => ?_⟩
  · have hi' := hi
    rw [← ra.len] at hi'
    exact ⟨_, _, SqL.of ((fr.e p3 fa).trans ha), List.getElem?_eq_getElem hi'⟩
  · exact ⟨_, SqL.of ((fr.e p3 fa).trans ha), by rw [ra.len]; exact Nat.le_refl _⟩
  · obtain ⟨rfl, y⟩ := y
    have hx := y _ (SqL.of ((fr.e p3 fa).trans ha))
    obtain ⟨d, hd, rd⟩ := (Rps.mo fr.mo _ _ ra).of_get hx
    exact ⟨F2, d, Gw.refl hF, hd, rd⟩
theorem bends_at {v : Int} (h0 : 0 ≤ v) (h1 : v < 4) : ∃ b : Nat, b ≤ 2 ∧ atI [D.int 0, .int 0, .int 1, .int 2] v = some (.int (b : Int)) := by
  obtain ⟨j, rfl⟩ := Int.eq_ofNat_of_zero_le h0
  have hj : j = 0 ∨ j = 1 ∨ j = 2 ∨ j = 3 := by omega
  rcases hj with rfl | rfl | rfl | rfl
  · exact ⟨0, by decide, atI_nat (j := 0) rfl⟩
  · exact ⟨0, by decide, atI_nat (j := 1) rfl⟩
  · exact ⟨1, by decide, atI_nat (j := 2) rfl⟩
  · exact ⟨2, by decide, atI_nat (j := 3) rfl⟩
end
section
variable {P : Program} {w : World} {K : PySem.W.Frag} {mg : Str → Option Value} {base : Heap}
abbrev s_law : Stmt := topS 46
theorem sc_law : FnScope ["script", "cell", "jar", "some", "versions", "turns", "bends", "j", "timed"] ["script"] (defScope s_law) := ⟨rfl, rfl, rfl, by decide +kernel, rfl, by decide +kernel, by decide +kernel⟩
/-- True for every list of whole numbers -/
def spLaw (K : PySem.W.Frag) : Sp := fun vs H Q _ => ∃ (a : Addr) (ns : List Int), vs = [.ref a] ∧ SqL K H a (ns.map V.int) ∧ ∀ H', Q (.bl true) H'
theorem ok_law {f : Addr} {fd : FuncData} (F : Fun K "law" "law" s_law f fd) (T : Bt mg) (C__law_jar : Cal P w K mg base "_law_jar" ["cell"] 1 (CtN pJar rJar)) (C__law_take : Cal P w K mg base "_law_take" ["jar", "many"] 1 (CtJ pTk rTk)) (C__law_dealt : Cal P w K mg base "_law_dealt" ["jar", "most"] 3 (CtJ pDl rDl)) (C__law_bent : Cal P w K mg base "_law_bent" ["jar", "some", "versions"] 3 (CtJ pBe rBe)) (C__law_right : Cal P w K mg base "_law_right" ["some", "versions", "turns", "timed", "is_bent"] 7 (Ct pRt rRt)) :
    FnOk P w K mg base CX0 8 f fd ["script"] (spLaw K) := by
  refine F.ok sc_law (fun vs H Q E ⟨a, ns, e, _⟩ => by rw [e]; rfl) (fun cdv A outer s H vs Q E hr ⟨a, ns, e, hS, kQ⟩ => ?_)
  subst e
  refine ⟨_, (pss_cons (ps_for PassesOwn.never rfl (pi_list (pe_op op_cat (pe_lst (pa_cons pe_int (pa_cons pe_int pa_nil))) (pe_slice sl_list (pv 0) po_none (po_some pe_int)))) (pg_name (i := 1) sc_law.nd rfl (.inl rfl) (.inl rfl)) (pss_cons (ps_set (i := 2) sc_law.nd rfl (.inl rfl) (pe_callC _ C__law_jar hr (pa_cons (pv 1) pa_nil)))
      (pss_cons (ps_asg (pe_callC _ C__law_dealt hr (pa_cons (pv 2) (pa_cons pe_int pa_nil))) (pg_tup rfl (pgs_cons (pg_name (i := 3) sc_law.nd rfl (.inl rfl) (.inl rfl)) (pgs_cons (pg_name (i := 4) sc_law.nd rfl (.inl rfl) (.inl rfl)) (pgs_cons (pg_name (i := 5) sc_law.nd rfl (.inl rfl) (.inl rfl)) pgs_nil)))))
      (pss_cons (ps_set (i := 6) sc_law.nd rfl (.inl rfl) (pe_ix ix_list (pe_lst (pa_cons pe_int (pa_cons pe_int (pa_cons pe_int (pa_cons pe_int pa_nil))))) (pe_callC _ C__law_take hr (pa_cons (pv 2) (pa_cons pe_int pa_nil))) (fun _ _ => rfl)))
      (pss_cons (ps_for PassesOwn.never rfl (pi_range1 rfl T.range_ (pa_cons (pv 6) pa_nil)) (pg_name (i := 7) sc_law.nd rfl (.inl rfl) (.inl rfl)) (pss_one (ps_expr (pe_callC _ C__law_bent hr (pa_cons (pv 2) (pa_cons (pv 3) (pa_cons (pv 4) pa_nil)))))))
      (pss_one (ps_for PassesOwn.never rfl (pi_list (pe_lst (pa_cons pe_bl (pa_cons pe_bl pa_nil)))) (pg_name (i := 8) sc_law.nd rfl (.inl rfl) (.inl rfl)) (pss_one (ps_if (pt_not (pt_val (pe_callC _ C__law_right hr (pa_cons (pv 3) (pa_cons (pv 4) (pa_cons (pv 5) (pa_cons (pv 8) (pa_cons (pe_cmpR op_gt (pv 6) pe_int (nomark _)) pa_nil)))))))) (pss_one (ps_ret pe_bl)) pss_nil)))))))))
      (pss_one (ps_ret pe_bl))), ?_⟩
  have en0 : EnvJ ⟨fun _ => False, less H []⟩ (fun _ => False) H (L2.start ["script", "cell", "jar", "some", "versions", "turns", "bends", "j", "timed"] [.ref a]) (roA ["script", "cell", "jar", "some", "versions", "turns", "bends", "j", "timed"] [.p a]) [] := envA_start (fun _ h => h.elim) ⟨_, _, rfl, rfl, rfl⟩ ⟨(fun _ h => nomatch h), (fun _ h => nomatch h), List.nodup_nil⟩
  refine sj_forAt (Φ := { nx := fun _ _ => True, rt := fun _ _ => False }) [1, 2, 3, 4, 5, 6, 7, 8] (P := fun ds Z' => (∃ cs : List Int, ds = cs.map .int) ∧ Z' = []) (fun R k => wj_script en0 rfl hS R fun cs J F' H' en fr W => k _ J F' H' [] ⟨⟨cs, rfl⟩, rfl⟩ en fr W) (fun ds Z1 ⟨⟨cells, e1⟩, e2⟩ => ?_) _ (fun _ _ _ H' _ _ _ _ => kQ H') (fun _ _ _ _ _ h => h.elim)
  subst e1 e2
  refine ⟨fun i ρ Z => ρ = [.ptr a, .no, .no, .no, .no, .no, .no, .no, .no] ∧ Z = [], ⟨rfl, rfl⟩, fun i d ρ Z hd ⟨er, ez⟩ => ⟨_, tj_name, ?_⟩, fun _ _ _ => True.intro⟩
  subst er ez
  rw [List.getElem?_map] at hd
  obtain ⟨c, _, rfl⟩ := Option.map_eq_some_iff.mp hd
  -- the jar
  refine sj_seq (sj_asgJar (ea_cons (ev_var rfl) ea_nil) fun pj x0 f0 ok0 => ?_)
  -- what is dealt
  refine sj_seq (sj_asgT (Pa := fun es Z1 => es = [.p pj, .d (.int 12)] ∧ Z1 = [.cell pj (jarD x0 f0)]) (ea_p rfl (ea_d (Pa := fun d Z1 => d = .int 12 ∧ Z1 = [.cell pj (jarD x0 f0)]) (ej_ev ev_int ⟨rfl, rfl⟩) fun d Z1 ⟨e1, e2⟩ => by
    subst e1 e2
    exact ea_nilJ ⟨rfl, rfl⟩)) fun es Z1 ⟨e1, e2⟩ => ?_)
  subst e1 e2
  refine ⟨[.cell pj (jarD x0 f0)], [], List.Perm.refl _, ⟨pj, x0, f0, rfl, rfl, ok0⟩, fun r Z' ⟨pj', L, pv, x1, f1, n1, n2, n3, t, tm, l, st, cs0, e, ez, ok1, k1, k2, k3, t1, t12, pm, htm, gen, hl, er⟩ => ⟨L, pv, _, zb pv cs0 pj x1 f1 L (spread t l) [], er, ?_, ?_⟩⟩
  · injection e with q1 _
    injection q1 with q1
    subst q1
    rw [ez, List.append_nil]
    exact List.Perm.swap _ _ _
  have G0 := gen.good hl t1 t12 pm htm (fun n hn => by
    rcases List.mem_cons.mp hn with z | hn
    · rw [z]; exact k1
    rcases List.mem_cons.mp hn with z | hn
    · rw [z]; exact k2
    rw [List.mem_singleton.mp hn]; exact k3)
  have S0 := fun timed => gen.stands hl pm htm timed
  have sl : (spread t l).length = t.length := spread_len t l
  -- how often it is bent
  refine sj_seq (sj_asgM (fun d Z' => ∃ (b : Nat) (x f : Int), d = .int (b : Int) ∧ b ≤ 2 ∧ JarOk x f ∧ Z' = zb pv cs0 pj x f L (spread t l) [])
    (ej_op (Pa := fun d Z1 => d = .list [.int 0, .int 0, .int 1, .int 2] ∧ Z1 = zb pv cs0 pj x1 f1 L (spread t l) []) (ej_ev (EvN.ev (en_lst (ea_cons ev_int (ea_cons ev_int (ea_cons ev_int (ea_cons ev_int ea_nil)))) (by simp))) ⟨rfl, rfl⟩) fun d Z1 ⟨e1, e2⟩ => by
      subst e1 e2
      exact ej_take (k := 1) (m := 4) rfl (ej_ev ev_int ⟨rfl, rfl⟩) rfl ok1 (by decide) (by decide) fun v x' f' v0 v1 ok' => by
        obtain ⟨b, h1, h2⟩ := bends_at v0 v1
        exact ⟨.int (b : Int), rv_ixL h2, b, x', f', rfl, h1, ok', rfl⟩) fun d Z' ⟨b, x2, f2, e1, b2, ok2, e2⟩ => ?_)
  subst e1 e2
  -- it is bent
  refine sj_seq (sj_for [7] (P := fun ds Z' => ds = upto b ∧ Z' = zb pv cs0 pj x2 f2 L (spread t l) []) (wj_ev (wk_range (ea_cons (ev_var rfl) ea_nil) (by omega)) ⟨rfl, rfl⟩) fun ds Z1 ⟨e1, e2⟩ => ?_)
  subst e1 e2
  rw [upto_len]
  refine ⟨fun i ρ Z => ∃ (x f : Int) (dl : List (Dl Str)) (cs : Cs) (G : Zs), JarOk x f ∧ Good dl (vrOf cs) ∧ dl.length = t.length ∧ (i = 0 → dl = spread t l ∧ cs = cs0) ∧
    ρ = [.ptr a, .im (.int c), .ptr pj, .ptr L, .ptr pv, .im (.list ((nI t).map .int)), .im (.int (b : Int)), .no, .no] ∧ Z = zb pv cs pj x f L dl G,
    ⟨x2, f2, spread t l, cs0, [], ok2, G0, sl, fun _ => ⟨rfl, rfl⟩, rfl, rfl⟩, fun i d ρ Z hd ⟨x, f, dl, cs, G, ok, GG, len, _, er, ez⟩ => ⟨_, tj_name, ?_⟩, fun ρ Z ⟨x, f, dl, cs, G, ok, GG, len, first, er, ez⟩ => ?_⟩
  · subst er ez
    refine sj_dropA (Pa := fun es Z1 => es = [.p pj, .p L, .p pv] ∧ Z1 = zb pv cs pj x f L dl G) (ea_p rfl (ea_p rfl (ea_p rfl (ea_nilJ ⟨rfl, rfl⟩)))) fun es Z1 ⟨e1, e2⟩ => ?_
    subst e1 e2
    refine ⟨zb pv cs pj x f L dl [], G, List.Perm.refl _, ⟨pj, L, pv, x, f, dl, cs, rfl, rfl, ok, GG⟩, fun r Z' ⟨pj', L', pv', x', f', x'', f'', dl', dl'', cs', cs'', G', e, ez, ez', ok', GG', len', _⟩ => ?_⟩
    injection e with q1 e
    injection q1 with q1
    injection e with q2 e
    injection q2 with q2
    injection e with q3 _
    injection q3 with q3
    subst q1 q2 q3 ez'
    injection ez with _ ez
    injection ez with _ ez
    injection ez with q4 _
    injection q4 with _ q4
    injection q4 with q4
    have q4 := map_inj' (fun x y => dealD_inj) q4
    subst q4
    exact ⟨zb pv cs'' pj x'' f'' L dl'' (G' ++ G), List.Perm.refl _, x'', f'', dl'', cs'', G' ++ G, ok', GG', len'.trans len, (fun z => nomatch z), rfl, rfl⟩
  subst er ez
  -- it is told
  refine sj_dropZ (Z1 := [.vers pv cs, .cell L (.list (dl.map dealD))]) (Z2 := .cell pj (jarD x f) :: G) ?_ ?_
  · exact List.Perm.cons _ (List.Perm.swap _ _ _)
  refine sj_thaw (i := 3) (p := L) (Z1 := [.vers pv cs]) rfl (List.Perm.refl _) ?_
  refine sj_thawV (i := 4) (p := pv) (cs := cs) (Z1 := []) rfl (List.Perm.refl _) ?_
  rw [verD_eq]
  refine sj_for [7, 8] (P := fun ds Z' => ds = [.bool false, .bool true] ∧ Z' = []) (wj_ev (wk_list (EvN.ev (en_lst (ea_cons ev_bl (ea_cons ev_bl ea_nil)) (by simp)))) ⟨rfl, rfl⟩) fun ds Z1 ⟨e1, e2⟩ => ?_
  subst e1 e2
  refine ⟨fun i ρ Z => ρ = [.ptr a, .im (.int c), .ptr pj, .im (.list (dl.map dealD)), .im (versD (vrOf cs)), .im (.list ((nI t).map .int)), .im (.int (b : Int)), .no, .no] ∧ Z = [], ⟨rfl, rfl⟩, fun i d ρ Z hd ⟨er, ez⟩ => ⟨_, tj_name, ?_⟩, fun ρ Z ⟨er, ez⟩ => ?_⟩
  · subst er ez
    obtain ⟨timed, rfl⟩ : ∃ timed, d = .bool timed := by
      have := List.mem_of_getElem? hd
      rcases List.mem_cons.mp this with z | z
      · exact ⟨_, z⟩
      · exact ⟨_, List.mem_singleton.mp z⟩
    refine sj_if (P := fun b Z' => b = false ∧ Z' = []) (et_ofT (et_not (et_val (ev_call (d := .bool true) (ds := [.list (dl.map dealD), versD (vrOf cs), .list ((nI t).map .int), .bool timed, .bool (decide ((0 : Int) < (b : Int)))]) (ea_cons (ev_var rfl) (ea_cons (ev_var rfl) (ea_cons (ev_var rfl) (ea_cons (ev_var rfl) (ea_cons (ev_op (ev_var rfl) ev_int rv_gt) ea_nil)))))
      ⟨dl, vrOf cs, t, timed, _, rfl, GG, by rw [len]; exact pm, fun h => ?_⟩ fun d' h => h))) ⟨rfl, rfl⟩) (fun Z1 ⟨h, _⟩ => nomatch h) (fun Z1 ⟨_, e⟩ => sj_next ⟨rfl, e⟩)
    have b0 : b = 0 := by
      have := of_decide_eq_false h
      omega
    obtain ⟨ed, ec⟩ := first b0
    subst ed ec
    exact S0 timed
  · subst er ez
    exact ⟨rfl, rfl⟩
end
end Tk

set_option Elab.async false
set_option linter.all false
set_option maxRecDepth 100000
set_option maxHeartbeats 4000000
/-! E32: what the top has written, all defs put together. -/
namespace Tk
open PySem PySem.Spec PyProof.Rows L2 Dm
section
variable {P : Program} {w : World} {K : PySem.W.Frag} {h base : Heap} {mg : Str → Option Value} {f : Addr} {oc kV doc pm cdv ct : Value} {od an : Option Addr} {osl : Array (Option Value)}
theorem da_is_whole (X : K.In h) (G : h.Ns mainGlobals mg) (a : PySem.W.nsIn K mainGlobals "is_whole" = some (some (.ref f))) (l : K.lookup f = some ⟨oc, od, .func (PySem.W.fnOf "is_whole" "is_whole" (defArgs s_is_whole) (defBody s_is_whole) (defScope s_is_whole) .none kV doc pm an cdv ct), osl⟩) (c : PySem.W.codeIn K cdv "is_whole" = true) (k : PySem.W.keepIn K (.ref f) = true) : DefAt K mg "is_whole" s_is_whole ["some", "least", "most"] :=
  ⟨f, _, fun_mk l c k, PySem.W.mg_of X G a, (fun_mk (st := s_is_whole) l c k).binds fun _ _ _ _ _ _ us hl => match us, hl with | [_, _, _], _ => rfl⟩
theorem da_is_worth (X : K.In h) (G : h.Ns mainGlobals mg) (a : PySem.W.nsIn K mainGlobals "is_worth" = some (some (.ref f))) (l : K.lookup f = some ⟨oc, od, .func (PySem.W.fnOf "is_worth" "is_worth" (defArgs s_is_worth) (defBody s_is_worth) (defScope s_is_worth) .none kV doc pm an cdv ct), osl⟩) (c : PySem.W.codeIn K cdv "is_worth" = true) (k : PySem.W.keepIn K (.ref f) = true) : DefAt K mg "is_worth" s_is_worth ["some"] :=
  ⟨f, _, fun_mk l c k, PySem.W.mg_of X G a, (fun_mk (st := s_is_worth) l c k).binds fun _ _ _ _ _ _ us hl => match us, hl with | [_], _ => rfl⟩
theorem da_is_name (X : K.In h) (G : h.Ns mainGlobals mg) (a : PySem.W.nsIn K mainGlobals "is_name" = some (some (.ref f))) (l : K.lookup f = some ⟨oc, od, .func (PySem.W.fnOf "is_name" "is_name" (defArgs s_is_name) (defBody s_is_name) (defScope s_is_name) .none kV doc pm an cdv ct), osl⟩) (c : PySem.W.codeIn K cdv "is_name" = true) (k : PySem.W.keepIn K (.ref f) = true) : DefAt K mg "is_name" s_is_name ["some"] :=
  ⟨f, _, fun_mk l c k, PySem.W.mg_of X G a, (fun_mk (st := s_is_name) l c k).binds fun _ _ _ _ _ _ us hl => match us, hl with | [_], _ => rfl⟩
theorem da_is_dealing_deed (X : K.In h) (G : h.Ns mainGlobals mg) (a : PySem.W.nsIn K mainGlobals "is_dealing_deed" = some (some (.ref f))) (l : K.lookup f = some ⟨oc, od, .func (PySem.W.fnOf "is_dealing_deed" "is_dealing_deed" (defArgs s_is_dealing_deed) (defBody s_is_dealing_deed) (defScope s_is_dealing_deed) .none kV doc pm an cdv ct), osl⟩) (c : PySem.W.codeIn K cdv "is_dealing_deed" = true) (k : PySem.W.keepIn K (.ref f) = true) : DefAt K mg "is_dealing_deed" s_is_dealing_deed ["some"] :=
  ⟨f, _, fun_mk l c k, PySem.W.mg_of X G a, (fun_mk (st := s_is_dealing_deed) l c k).binds fun _ _ _ _ _ _ us hl => match us, hl with | [_], _ => rfl⟩
theorem da_is_dealing (X : K.In h) (G : h.Ns mainGlobals mg) (a : PySem.W.nsIn K mainGlobals "is_dealing" = some (some (.ref f))) (l : K.lookup f = some ⟨oc, od, .func (PySem.W.fnOf "is_dealing" "is_dealing" (defArgs s_is_dealing) (defBody s_is_dealing) (defScope s_is_dealing) .none kV doc pm an cdv ct), osl⟩) (c : PySem.W.codeIn K cdv "is_dealing" = true) (k : PySem.W.keepIn K (.ref f) = true) : DefAt K mg "is_dealing" s_is_dealing ["some"] :=
  ⟨f, _, fun_mk l c k, PySem.W.mg_of X G a, (fun_mk (st := s_is_dealing) l c k).binds fun _ _ _ _ _ _ us hl => match us, hl with | [_], _ => rfl⟩
theorem da_written_by (X : K.In h) (G : h.Ns mainGlobals mg) (a : PySem.W.nsIn K mainGlobals "written_by" = some (some (.ref f))) (l : K.lookup f = some ⟨oc, od, .func (PySem.W.fnOf "written_by" "written_by" (defArgs s_written_by) (defBody s_written_by) (defScope s_written_by) .none kV doc pm an cdv ct), osl⟩) (c : PySem.W.codeIn K cdv "written_by" = true) (k : PySem.W.keepIn K (.ref f) = true) : DefAt K mg "written_by" s_written_by ["dealing"] :=
  ⟨f, _, fun_mk l c k, PySem.W.mg_of X G a, (fun_mk (st := s_written_by) l c k).binds fun _ _ _ _ _ _ us hl => match us, hl with | [_], _ => rfl⟩
theorem da_are_worths (X : K.In h) (G : h.Ns mainGlobals mg) (a : PySem.W.nsIn K mainGlobals "are_worths" = some (some (.ref f))) (l : K.lookup f = some ⟨oc, od, .func (PySem.W.fnOf "are_worths" "are_worths" (defArgs s_are_worths) (defBody s_are_worths) (defScope s_are_worths) .none kV doc pm an cdv ct), osl⟩) (c : PySem.W.codeIn K cdv "are_worths" = true) (k : PySem.W.keepIn K (.ref f) = true) : DefAt K mg "are_worths" s_are_worths ["some"] :=
  ⟨f, _, fun_mk l c k, PySem.W.mg_of X G a, (fun_mk (st := s_are_worths) l c k).binds fun _ _ _ _ _ _ us hl => match us, hl with | [_], _ => rfl⟩
theorem da_versions_fit (X : K.In h) (G : h.Ns mainGlobals mg) (a : PySem.W.nsIn K mainGlobals "versions_fit" = some (some (.ref f))) (l : K.lookup f = some ⟨oc, od, .func (PySem.W.fnOf "versions_fit" "versions_fit" (defArgs s_versions_fit) (defBody s_versions_fit) (defScope s_versions_fit) .none kV doc pm an cdv ct), osl⟩) (c : PySem.W.codeIn K cdv "versions_fit" = true) (k : PySem.W.keepIn K (.ref f) = true) : DefAt K mg "versions_fit" s_versions_fit ["dealings", "versions"] :=
  ⟨f, _, fun_mk l c k, PySem.W.mg_of X G a, (fun_mk (st := s_versions_fit) l c k).binds fun _ _ _ _ _ _ us hl => match us, hl with | [_, _], _ => rfl⟩
theorem da_need_dealings (X : K.In h) (G : h.Ns mainGlobals mg) (a : PySem.W.nsIn K mainGlobals "need_dealings" = some (some (.ref f))) (l : K.lookup f = some ⟨oc, od, .func (PySem.W.fnOf "need_dealings" "need_dealings" (defArgs s_need_dealings) (defBody s_need_dealings) (defScope s_need_dealings) .none kV doc pm an cdv ct), osl⟩) (c : PySem.W.codeIn K cdv "need_dealings" = true) (k : PySem.W.keepIn K (.ref f) = true) : DefAt K mg "need_dealings" s_need_dealings ["dealings", "versions"] :=
  ⟨f, _, fun_mk l c k, PySem.W.mg_of X G a, (fun_mk (st := s_need_dealings) l c k).binds fun _ _ _ _ _ _ us hl => match us, hl with | [_, _], _ => rfl⟩
theorem da_writers_of (X : K.In h) (G : h.Ns mainGlobals mg) (a : PySem.W.nsIn K mainGlobals "writers_of" = some (some (.ref f))) (l : K.lookup f = some ⟨oc, od, .func (PySem.W.fnOf "writers_of" "writers_of" (defArgs s_writers_of) (defBody s_writers_of) (defScope s_writers_of) .none kV doc pm an cdv ct), osl⟩) (c : PySem.W.codeIn K cdv "writers_of" = true) (k : PySem.W.keepIn K (.ref f) = true) : DefAt K mg "writers_of" s_writers_of ["dealings"] :=
  ⟨f, _, fun_mk l c k, PySem.W.mg_of X G a, (fun_mk (st := s_writers_of) l c k).binds fun _ _ _ _ _ _ us hl => match us, hl with | [_], _ => rfl⟩
theorem da_reads_ahead (X : K.In h) (G : h.Ns mainGlobals mg) (a : PySem.W.nsIn K mainGlobals "reads_ahead" = some (some (.ref f))) (l : K.lookup f = some ⟨oc, od, .func (PySem.W.fnOf "reads_ahead" "reads_ahead" (defArgs s_reads_ahead) (defBody s_reads_ahead) (defScope s_reads_ahead) .none kV doc pm an cdv ct), osl⟩) (c : PySem.W.codeIn K cdv "reads_ahead" = true) (k : PySem.W.keepIn K (.ref f) = true) : DefAt K mg "reads_ahead" s_reads_ahead ["dealing"] :=
  ⟨f, _, fun_mk l c k, PySem.W.mg_of X G a, (fun_mk (st := s_reads_ahead) l c k).binds fun _ _ _ _ _ _ us hl => match us, hl with | [_], _ => rfl⟩
theorem da_reasons_after (X : K.In h) (G : h.Ns mainGlobals mg) (a : PySem.W.nsIn K mainGlobals "reasons_after" = some (some (.ref f))) (l : K.lookup f = some ⟨oc, od, .func (PySem.W.fnOf "reasons_after" "reasons_after" (defArgs s_reasons_after) (defBody s_reasons_after) (defScope s_reasons_after) .none kV doc pm an cdv ct), osl⟩) (c : PySem.W.codeIn K cdv "reasons_after" = true) (k : PySem.W.keepIn K (.ref f) = true) : DefAt K mg "reasons_after" s_reasons_after ["versions", "writers"] :=
  ⟨f, _, fun_mk l c k, PySem.W.mg_of X G a, (fun_mk (st := s_reasons_after) l c k).binds fun _ _ _ _ _ _ us hl => match us, hl with | [_, _], _ => rfl⟩
theorem da_reasons_of_time (X : K.In h) (G : h.Ns mainGlobals mg) (a : PySem.W.nsIn K mainGlobals "reasons_of_time" = some (some (.ref f))) (l : K.lookup f = some ⟨oc, od, .func (PySem.W.fnOf "reasons_of_time" "reasons_of_time" (defArgs s_reasons_of_time) (defBody s_reasons_of_time) (defScope s_reasons_of_time) .none kV doc pm an cdv ct), osl⟩) (c : PySem.W.codeIn K cdv "reasons_of_time" = true) (k : PySem.W.keepIn K (.ref f) = true) : DefAt K mg "reasons_of_time" s_reasons_of_time ["dealings"] :=
  ⟨f, _, fun_mk l c k, PySem.W.mg_of X G a, (fun_mk (st := s_reasons_of_time) l c k).binds fun _ _ _ _ _ _ us hl => match us, hl with | [_], _ => rfl⟩
theorem da_reasons_of_read (X : K.In h) (G : h.Ns mainGlobals mg) (a : PySem.W.nsIn K mainGlobals "reasons_of_read" = some (some (.ref f))) (l : K.lookup f = some ⟨oc, od, .func (PySem.W.fnOf "reasons_of_read" "reasons_of_read" (defArgs s_reasons_of_read) (defBody s_reasons_of_read) (defScope s_reasons_of_read) .none kV doc pm an cdv ct), osl⟩) (c : PySem.W.codeIn K cdv "reasons_of_read" = true) (k : PySem.W.keepIn K (.ref f) = true) : DefAt K mg "reasons_of_read" s_reasons_of_read ["number", "name", "worth", "versions", "writers"] :=
  ⟨f, _, fun_mk l c k, PySem.W.mg_of X G a, (fun_mk (st := s_reasons_of_read) l c k).binds fun _ _ _ _ _ _ us hl => match us, hl with | [_, _, _, _, _], _ => rfl⟩
theorem da_all_reasons (X : K.In h) (G : h.Ns mainGlobals mg) (a : PySem.W.nsIn K mainGlobals "all_reasons" = some (some (.ref f))) (l : K.lookup f = some ⟨oc, od, .func (PySem.W.fnOf "all_reasons" "all_reasons" (defArgs s_all_reasons) (defBody s_all_reasons) (defScope s_all_reasons) .none kV doc pm an cdv ct), osl⟩) (c : PySem.W.codeIn K cdv "all_reasons" = true) (k : PySem.W.keepIn K (.ref f) = true) : DefAt K mg "all_reasons" s_all_reasons ["dealings", "versions", "timed"] :=
  ⟨f, _, fun_mk l c k, PySem.W.mg_of X G a, (fun_mk (st := s_all_reasons) l c k).binds fun _ _ _ _ _ _ us hl => match us, hl with | [_, _, _], _ => rfl⟩
theorem da_first_lost (X : K.In h) (G : h.Ns mainGlobals mg) (a : PySem.W.nsIn K mainGlobals "first_lost" = some (some (.ref f))) (l : K.lookup f = some ⟨oc, od, .func (PySem.W.fnOf "first_lost" "first_lost" (defArgs s_first_lost) (defBody s_first_lost) (defScope s_first_lost) .none kV doc pm an cdv ct), osl⟩) (c : PySem.W.codeIn K cdv "first_lost" = true) (k : PySem.W.keepIn K (.ref f) = true) : DefAt K mg "first_lost" s_first_lost ["dealings"] :=
  ⟨f, _, fun_mk l c k, PySem.W.mg_of X G a, (fun_mk (st := s_first_lost) l c k).binds fun _ _ _ _ _ _ us hl => match us, hl with | [_], _ => rfl⟩
theorem da_order_by (X : K.In h) (G : h.Ns mainGlobals mg) (a : PySem.W.nsIn K mainGlobals "order_by" = some (some (.ref f))) (l : K.lookup f = some ⟨oc, od, .func (PySem.W.fnOf "order_by" "order_by" (defArgs s_order_by) (defBody s_order_by) (defScope s_order_by) .none kV doc pm an cdv ct), osl⟩) (c : PySem.W.codeIn K cdv "order_by" = true) (k : PySem.W.keepIn K (.ref f) = true) : DefAt K mg "order_by" s_order_by ["many", "some"] :=
  ⟨f, _, fun_mk l c k, PySem.W.mg_of X G a, (fun_mk (st := s_order_by) l c k).binds fun _ _ _ _ _ _ us hl => match us, hl with | [_, _], _ => rfl⟩
theorem da_ring_among (X : K.In h) (G : h.Ns mainGlobals mg) (a : PySem.W.nsIn K mainGlobals "ring_among" = some (some (.ref f))) (l : K.lookup f = some ⟨oc, od, .func (PySem.W.fnOf "ring_among" "ring_among" (defArgs s_ring_among) (defBody s_ring_among) (defScope s_ring_among) .none kV doc pm an cdv ct), osl⟩) (c : PySem.W.codeIn K cdv "ring_among" = true) (k : PySem.W.keepIn K (.ref f) = true) : DefAt K mg "ring_among" s_ring_among ["left", "some"] :=
  ⟨f, _, fun_mk l c k, PySem.W.mg_of X G a, (fun_mk (st := s_ring_among) l c k).binds fun _ _ _ _ _ _ us hl => match us, hl with | [_, _], _ => rfl⟩
theorem da_judged_dealings (X : K.In h) (G : h.Ns mainGlobals mg) (a : PySem.W.nsIn K mainGlobals "judged_dealings" = some (some (.ref f))) (l : K.lookup f = some ⟨oc, od, .func (PySem.W.fnOf "judged_dealings" "judged_dealings" (defArgs s_judged_dealings) (defBody s_judged_dealings) (defScope s_judged_dealings) .none kV doc pm an cdv ct), osl⟩) (c : PySem.W.codeIn K cdv "judged_dealings" = true) (k : PySem.W.keepIn K (.ref f) = true) : DefAt K mg "judged_dealings" s_judged_dealings ["dealings", "versions", "timed"] :=
  ⟨f, _, fun_mk l c k, PySem.W.mg_of X G a, (fun_mk (st := s_judged_dealings) l c k).binds fun _ _ _ _ _ _ us hl => match us, hl with | [_, _, _], _ => rfl⟩
theorem da_is_reason (X : K.In h) (G : h.Ns mainGlobals mg) (a : PySem.W.nsIn K mainGlobals "is_reason" = some (some (.ref f))) (l : K.lookup f = some ⟨oc, od, .func (PySem.W.fnOf "is_reason" "is_reason" (defArgs s_is_reason) (defBody s_is_reason) (defScope s_is_reason) .none kV doc pm an cdv ct), osl⟩) (c : PySem.W.codeIn K cdv "is_reason" = true) (k : PySem.W.keepIn K (.ref f) = true) : DefAt K mg "is_reason" s_is_reason ["some", "known"] :=
  ⟨f, _, fun_mk l c k, PySem.W.mg_of X G a, (fun_mk (st := s_is_reason) l c k).binds fun _ _ _ _ _ _ us hl => match us, hl with | [_, _], _ => rfl⟩
theorem da_is_ring (X : K.In h) (G : h.Ns mainGlobals mg) (a : PySem.W.nsIn K mainGlobals "is_ring" = some (some (.ref f))) (l : K.lookup f = some ⟨oc, od, .func (PySem.W.fnOf "is_ring" "is_ring" (defArgs s_is_ring) (defBody s_is_ring) (defScope s_is_ring) .none kV doc pm an cdv ct), osl⟩) (c : PySem.W.codeIn K cdv "is_ring" = true) (k : PySem.W.keepIn K (.ref f) = true) : DefAt K mg "is_ring" s_is_ring ["some", "known"] :=
  ⟨f, _, fun_mk l c k, PySem.W.mg_of X G a, (fun_mk (st := s_is_ring) l c k).binds fun _ _ _ _ _ _ us hl => match us, hl with | [_, _], _ => rfl⟩
theorem da_is_order (X : K.In h) (G : h.Ns mainGlobals mg) (a : PySem.W.nsIn K mainGlobals "is_order" = some (some (.ref f))) (l : K.lookup f = some ⟨oc, od, .func (PySem.W.fnOf "is_order" "is_order" (defArgs s_is_order) (defBody s_is_order) (defScope s_is_order) .none kV doc pm an cdv ct), osl⟩) (c : PySem.W.codeIn K cdv "is_order" = true) (k : PySem.W.keepIn K (.ref f) = true) : DefAt K mg "is_order" s_is_order ["some", "many", "known"] :=
  ⟨f, _, fun_mk l c k, PySem.W.mg_of X G a, (fun_mk (st := s_is_order) l c k).binds fun _ _ _ _ _ _ us hl => match us, hl with | [_, _, _], _ => rfl⟩
theorem da_is_verdict (X : K.In h) (G : h.Ns mainGlobals mg) (a : PySem.W.nsIn K mainGlobals "is_verdict" = some (some (.ref f))) (l : K.lookup f = some ⟨oc, od, .func (PySem.W.fnOf "is_verdict" "is_verdict" (defArgs s_is_verdict) (defBody s_is_verdict) (defScope s_is_verdict) .none kV doc pm an cdv ct), osl⟩) (c : PySem.W.codeIn K cdv "is_verdict" = true) (k : PySem.W.keepIn K (.ref f) = true) : DefAt K mg "is_verdict" s_is_verdict ["dealings", "versions", "timed", "told"] :=
  ⟨f, _, fun_mk l c k, PySem.W.mg_of X G a, (fun_mk (st := s_is_verdict) l c k).binds fun _ _ _ _ _ _ us hl => match us, hl with | [_, _, _, _], _ => rfl⟩
theorem da__law_jar (X : K.In h) (G : h.Ns mainGlobals mg) (a : PySem.W.nsIn K mainGlobals "_law_jar" = some (some (.ref f))) (l : K.lookup f = some ⟨oc, od, .func (PySem.W.fnOf "_law_jar" "_law_jar" (defArgs s__law_jar) (defBody s__law_jar) (defScope s__law_jar) .none kV doc pm an cdv ct), osl⟩) (c : PySem.W.codeIn K cdv "_law_jar" = true) (k : PySem.W.keepIn K (.ref f) = true) : DefAt K mg "_law_jar" s__law_jar ["cell"] :=
  ⟨f, _, fun_mk l c k, PySem.W.mg_of X G a, (fun_mk (st := s__law_jar) l c k).binds fun _ _ _ _ _ _ us hl => match us, hl with | [_], _ => rfl⟩
theorem da__law_take (X : K.In h) (G : h.Ns mainGlobals mg) (a : PySem.W.nsIn K mainGlobals "_law_take" = some (some (.ref f))) (l : K.lookup f = some ⟨oc, od, .func (PySem.W.fnOf "_law_take" "_law_take" (defArgs s__law_take) (defBody s__law_take) (defScope s__law_take) .none kV doc pm an cdv ct), osl⟩) (c : PySem.W.codeIn K cdv "_law_take" = true) (k : PySem.W.keepIn K (.ref f) = true) : DefAt K mg "_law_take" s__law_take ["jar", "many"] :=
  ⟨f, _, fun_mk l c k, PySem.W.mg_of X G a, (fun_mk (st := s__law_take) l c k).binds fun _ _ _ _ _ _ us hl => match us, hl with | [_, _], _ => rfl⟩
theorem da__law_names (X : K.In h) (G : h.Ns mainGlobals mg) (a : PySem.W.nsIn K mainGlobals "_law_names" = some (some (.ref f))) (l : K.lookup f = some ⟨oc, od, .func (PySem.W.fnOf "_law_names" "_law_names" (defArgs s__law_names) (defBody s__law_names) (defScope s__law_names) .none kV doc pm an cdv ct), osl⟩) (c : PySem.W.codeIn K cdv "_law_names" = true) (k : PySem.W.keepIn K (.ref f) = true) : DefAt K mg "_law_names" s__law_names ["jar"] :=
  ⟨f, _, fun_mk l c k, PySem.W.mg_of X G a, (fun_mk (st := s__law_names) l c k).binds fun _ _ _ _ _ _ us hl => match us, hl with | [_], _ => rfl⟩
theorem da__law_turns (X : K.In h) (G : h.Ns mainGlobals mg) (a : PySem.W.nsIn K mainGlobals "_law_turns" = some (some (.ref f))) (l : K.lookup f = some ⟨oc, od, .func (PySem.W.fnOf "_law_turns" "_law_turns" (defArgs s__law_turns) (defBody s__law_turns) (defScope s__law_turns) .none kV doc pm an cdv ct), osl⟩) (c : PySem.W.codeIn K cdv "_law_turns" = true) (k : PySem.W.keepIn K (.ref f) = true) : DefAt K mg "_law_turns" s__law_turns ["jar", "many"] :=
  ⟨f, _, fun_mk l c k, PySem.W.mg_of X G a, (fun_mk (st := s__law_turns) l c k).binds fun _ _ _ _ _ _ us hl => match us, hl with | [_, _], _ => rfl⟩
theorem da__law_doings (X : K.In h) (G : h.Ns mainGlobals mg) (a : PySem.W.nsIn K mainGlobals "_law_doings" = some (some (.ref f))) (l : K.lookup f = some ⟨oc, od, .func (PySem.W.fnOf "_law_doings" "_law_doings" (defArgs s__law_doings) (defBody s__law_doings) (defScope s__law_doings) .none kV doc pm an cdv ct), osl⟩) (c : PySem.W.codeIn K cdv "_law_doings" = true) (k : PySem.W.keepIn K (.ref f) = true) : DefAt K mg "_law_doings" s__law_doings ["jar", "names", "store", "versions"] :=
  ⟨f, _, fun_mk l c k, PySem.W.mg_of X G a, (fun_mk (st := s__law_doings) l c k).binds fun _ _ _ _ _ _ us hl => match us, hl with | [_, _, _, _], _ => rfl⟩
theorem da__law_dealt (X : K.In h) (G : h.Ns mainGlobals mg) (a : PySem.W.nsIn K mainGlobals "_law_dealt" = some (some (.ref f))) (l : K.lookup f = some ⟨oc, od, .func (PySem.W.fnOf "_law_dealt" "_law_dealt" (defArgs s__law_dealt) (defBody s__law_dealt) (defScope s__law_dealt) .none kV doc pm an cdv ct), osl⟩) (c : PySem.W.codeIn K cdv "_law_dealt" = true) (k : PySem.W.keepIn K (.ref f) = true) : DefAt K mg "_law_dealt" s__law_dealt ["jar", "most"] :=
  ⟨f, _, fun_mk l c k, PySem.W.mg_of X G a, (fun_mk (st := s__law_dealt) l c k).binds fun _ _ _ _ _ _ us hl => match us, hl with | [_, _], _ => rfl⟩
theorem da__law_writer (X : K.In h) (G : h.Ns mainGlobals mg) (a : PySem.W.nsIn K mainGlobals "_law_writer" = some (some (.ref f))) (l : K.lookup f = some ⟨oc, od, .func (PySem.W.fnOf "_law_writer" "_law_writer" (defArgs s__law_writer) (defBody s__law_writer) (defScope s__law_writer) .none kV doc pm an cdv ct), osl⟩) (c : PySem.W.codeIn K cdv "_law_writer" = true) (k : PySem.W.keepIn K (.ref f) = true) : DefAt K mg "_law_writer" s__law_writer ["some", "name", "worth"] :=
  ⟨f, _, fun_mk l c k, PySem.W.mg_of X G a, (fun_mk (st := s__law_writer) l c k).binds fun _ _ _ _ _ _ us hl => match us, hl with | [_, _, _], _ => rfl⟩
theorem da__law_other_read (X : K.In h) (G : h.Ns mainGlobals mg) (a : PySem.W.nsIn K mainGlobals "_law_other_read" = some (some (.ref f))) (l : K.lookup f = some ⟨oc, od, .func (PySem.W.fnOf "_law_other_read" "_law_other_read" (defArgs s__law_other_read) (defBody s__law_other_read) (defScope s__law_other_read) .none kV doc pm an cdv ct), osl⟩) (c : PySem.W.codeIn K cdv "_law_other_read" = true) (k : PySem.W.keepIn K (.ref f) = true) : DefAt K mg "_law_other_read" s__law_other_read ["jar", "doings", "versions"] :=
  ⟨f, _, fun_mk l c k, PySem.W.mg_of X G a, (fun_mk (st := s__law_other_read) l c k).binds fun _ _ _ _ _ _ us hl => match us, hl with | [_, _, _], _ => rfl⟩
theorem da__law_bent (X : K.In h) (G : h.Ns mainGlobals mg) (a : PySem.W.nsIn K mainGlobals "_law_bent" = some (some (.ref f))) (l : K.lookup f = some ⟨oc, od, .func (PySem.W.fnOf "_law_bent" "_law_bent" (defArgs s__law_bent) (defBody s__law_bent) (defScope s__law_bent) .none kV doc pm an cdv ct), osl⟩) (c : PySem.W.codeIn K cdv "_law_bent" = true) (k : PySem.W.keepIn K (.ref f) = true) : DefAt K mg "_law_bent" s__law_bent ["jar", "some", "versions"] :=
  ⟨f, _, fun_mk l c k, PySem.W.mg_of X G a, (fun_mk (st := s__law_bent) l c k).binds fun _ _ _ _ _ _ us hl => match us, hl with | [_, _, _], _ => rfl⟩
theorem da__law_stands (X : K.In h) (G : h.Ns mainGlobals mg) (a : PySem.W.nsIn K mainGlobals "_law_stands" = some (some (.ref f))) (l : K.lookup f = some ⟨oc, od, .func (PySem.W.fnOf "_law_stands" "_law_stands" (defArgs s__law_stands) (defBody s__law_stands) (defScope s__law_stands) .none kV doc pm an cdv ct), osl⟩) (c : PySem.W.codeIn K cdv "_law_stands" = true) (k : PySem.W.keepIn K (.ref f) = true) : DefAt K mg "_law_stands" s__law_stands ["some", "versions", "timed", "order"] :=
  ⟨f, _, fun_mk l c k, PySem.W.mg_of X G a, (fun_mk (st := s__law_stands) l c k).binds fun _ _ _ _ _ _ us hl => match us, hl with | [_, _, _, _], _ => rfl⟩
theorem da__law_right (X : K.In h) (G : h.Ns mainGlobals mg) (a : PySem.W.nsIn K mainGlobals "_law_right" = some (some (.ref f))) (l : K.lookup f = some ⟨oc, od, .func (PySem.W.fnOf "_law_right" "_law_right" (defArgs s__law_right) (defBody s__law_right) (defScope s__law_right) .none kV doc pm an cdv ct), osl⟩) (c : PySem.W.codeIn K cdv "_law_right" = true) (k : PySem.W.keepIn K (.ref f) = true) : DefAt K mg "_law_right" s__law_right ["some", "versions", "turns", "timed", "is_bent"] :=
  ⟨f, _, fun_mk l c k, PySem.W.mg_of X G a, (fun_mk (st := s__law_right) l c k).binds fun _ _ _ _ _ _ us hl => match us, hl with | [_, _, _, _, _], _ => rfl⟩
theorem bt_mk (X : K.In h) (G : h.Ns mainGlobals mg) {t0 t1 t2 t3 t4 : Tok} (z0 : PySem.W.nsIn K mainGlobals "len" = some none) (z1 : PySem.W.nsIn K mainGlobals "isinstance" = some none) (z2 : PySem.W.nsIn K mainGlobals "str" = some none) (z3 : PySem.W.nsIn K mainGlobals "int" = some none) (z4 : PySem.W.nsIn K mainGlobals "bool" = some none) (z5 : PySem.W.nsIn K mainGlobals "tuple" = some none) (z6 : PySem.W.nsIn K mainGlobals "list" = some none) (z7 : PySem.W.nsIn K mainGlobals "enumerate" = some none) (z8 : PySem.W.nsIn K mainGlobals "zip" = some none) (z9 : PySem.W.nsIn K mainGlobals "range" = some none) (z10 : PySem.W.nsIn K mainGlobals "sorted" = some none) (z11 : PySem.W.nsIn K mainGlobals "set" = some none) (z12 : PySem.W.nsIn K mainGlobals "reversed" = some none) (z13 : PySem.W.nsIn K mainGlobals "sum" = some none) (z14 : PySem.W.nsIn K mainGlobals "max" = some none)
  (y0 : PySem.W.nsIn K mainGlobals "LETTERS" = some (some (.str "abcdefghijklmnopqrstuvwxyz" t0))) (y1 : PySem.W.nsIn K mainGlobals "MOST_LETTERS" = some (some (.int 8 t1))) (y2 : PySem.W.nsIn K mainGlobals "MOST_DEALINGS" = some (some (.int 12 t2))) (y3 : PySem.W.nsIn K mainGlobals "MOST_WORTH" = some (some (.int (10 ^ 9) t3))) (y4 : PySem.W.nsIn K mainGlobals "MOST_MOMENT" = some (some (.int (10 ^ 60) t4))) : Bt mg :=
  ⟨PySem.W.mg_none_of X G z0, PySem.W.mg_none_of X G z1, PySem.W.mg_none_of X G z2, PySem.W.mg_none_of X G z3, PySem.W.mg_none_of X G z4, PySem.W.mg_none_of X G z5, PySem.W.mg_none_of X G z6, PySem.W.mg_none_of X G z7, PySem.W.mg_none_of X G z8, PySem.W.mg_none_of X G z9, PySem.W.mg_none_of X G z10, PySem.W.mg_none_of X G z11, PySem.W.mg_none_of X G z12, PySem.W.mg_none_of X G z13, PySem.W.mg_none_of X G z14,
  ⟨_, PySem.W.mg_of X G y0, _, rfl⟩, ⟨_, PySem.W.mg_of X G y1, _, rfl⟩, ⟨_, PySem.W.mg_of X G y2, _, rfl⟩, ⟨_, PySem.W.mg_of X G y3, _, rfl⟩, ⟨_, PySem.W.mg_of X G y4, _, rfl⟩⟩
theorem all_ok {fd : FuncData} (T : Bt mg) (D_is_whole : DefAt K mg "is_whole" s_is_whole ["some", "least", "most"]) (D_is_worth : DefAt K mg "is_worth" s_is_worth ["some"]) (D_is_name : DefAt K mg "is_name" s_is_name ["some"]) (D_is_dealing_deed : DefAt K mg "is_dealing_deed" s_is_dealing_deed ["some"]) (D_is_dealing : DefAt K mg "is_dealing" s_is_dealing ["some"]) (D_written_by : DefAt K mg "written_by" s_written_by ["dealing"]) (D_are_worths : DefAt K mg "are_worths" s_are_worths ["some"]) (D_versions_fit : DefAt K mg "versions_fit" s_versions_fit ["dealings", "versions"]) (D_need_dealings : DefAt K mg "need_dealings" s_need_dealings ["dealings", "versions"]) (D_writers_of : DefAt K mg "writers_of" s_writers_of ["dealings"]) (D_reads_ahead : DefAt K mg "reads_ahead" s_reads_ahead ["dealing"]) (D_reasons_after : DefAt K mg "reasons_after" s_reasons_after ["versions", "writers"]) (D_reasons_of_time : DefAt K mg "reasons_of_time" s_reasons_of_time ["dealings"]) (D_reasons_of_read : DefAt K mg "reasons_of_read" s_reasons_of_read ["number", "name", "worth", "versions", "writers"]) (D_all_reasons : DefAt K mg "all_reasons" s_all_reasons ["dealings", "versions", "timed"]) (D_first_lost : DefAt K mg "first_lost" s_first_lost ["dealings"]) (D_order_by : DefAt K mg "order_by" s_order_by ["many", "some"]) (D_ring_among : DefAt K mg "ring_among" s_ring_among ["left", "some"]) (D_judged_dealings : DefAt K mg "judged_dealings" s_judged_dealings ["dealings", "versions", "timed"]) (D_is_reason : DefAt K mg "is_reason" s_is_reason ["some", "known"]) (D_is_ring : DefAt K mg "is_ring" s_is_ring ["some", "known"]) (D_is_order : DefAt K mg "is_order" s_is_order ["some", "many", "known"]) (D_is_verdict : DefAt K mg "is_verdict" s_is_verdict ["dealings", "versions", "timed", "told"]) (D__law_jar : DefAt K mg "_law_jar" s__law_jar ["cell"]) (D__law_take : DefAt K mg "_law_take" s__law_take ["jar", "many"]) (D__law_names : DefAt K mg "_law_names" s__law_names ["jar"]) (D__law_turns : DefAt K mg "_law_turns" s__law_turns ["jar", "many"]) (D__law_doings : DefAt K mg "_law_doings" s__law_doings ["jar", "names", "store", "versions"]) (D__law_dealt : DefAt K mg "_law_dealt" s__law_dealt ["jar", "most"]) (D__law_writer : DefAt K mg "_law_writer" s__law_writer ["some", "name", "worth"]) (D__law_other_read : DefAt K mg "_law_other_read" s__law_other_read ["jar", "doings", "versions"]) (D__law_bent : DefAt K mg "_law_bent" s__law_bent ["jar", "some", "versions"]) (D__law_stands : DefAt K mg "_law_stands" s__law_stands ["some", "versions", "timed", "order"]) (D__law_right : DefAt K mg "_law_right" s__law_right ["some", "versions", "turns", "timed", "is_bent"]) (F : Fun K "law" "law" s_law f fd) : FnOk P w K mg base CX0 8 f fd ["script"] (spLaw K) := by
  have C_is_whole := cal_is_whole (P := P) (w := w) (base := base) D_is_whole T 
  have C_is_worth := cal_is_worth (P := P) (w := w) (base := base) D_is_worth T (C_is_whole.mono (by decide))
  have C_is_name := cal_is_name (P := P) (w := w) (base := base) D_is_name T 
  have C_is_dealing_deed := cal_is_dealing_deed (P := P) (w := w) (base := base) D_is_dealing_deed T (C_is_name.mono (by decide)) (C_is_worth.mono (by decide))
  have C_is_dealing := cal_is_dealing (P := P) (w := w) (base := base) D_is_dealing T (C_is_whole.mono (by decide)) (C_is_dealing_deed.mono (by decide))
  have C_written_by := cal_written_by (P := P) (w := w) (base := base) D_written_by T 
  have C_are_worths := cal_are_worths (P := P) (w := w) (base := base) D_are_worths T (C_is_worth.mono (by decide))
  have C_versions_fit := cal_versions_fit (P := P) (w := w) (base := base) D_versions_fit T (C_is_name.mono (by decide)) (C_are_worths.mono (by decide)) (C_written_by.mono (by decide))
  have C_need_dealings := cal_need_dealings (P := P) (w := w) (base := base) D_need_dealings T (C_is_dealing.mono (by decide)) (C_versions_fit.mono (by decide))
  have C_writers_of := cal_writers_of (P := P) (w := w) (base := base) D_writers_of T (C_written_by.mono (by decide))
  have C_reads_ahead := cal_reads_ahead (P := P) (w := w) (base := base) D_reads_ahead T 
  have C_reasons_after := cal_reasons_after (P := P) (w := w) (base := base) D_reasons_after T 
  have C_reasons_of_time := cal_reasons_of_time (P := P) (w := w) (base := base) D_reasons_of_time T 
  have C_reasons_of_read := cal_reasons_of_read (P := P) (w := w) (base := base) D_reasons_of_read T 
  have C_all_reasons := cal_all_reasons (P := P) (w := w) (base := base) D_all_reasons T (C_writers_of.mono (by decide)) (C_reasons_after.mono (by decide)) (C_reads_ahead.mono (by decide)) (C_reasons_of_read.mono (by decide)) (C_reasons_of_time.mono (by decide))
  have C_first_lost := cal_first_lost (P := P) (w := w) (base := base) D_first_lost T (C_writers_of.mono (by decide))
  have C_order_by := cal_order_by (P := P) (w := w) (base := base) D_order_by T 
  have C_ring_among := cal_ring_among (P := P) (w := w) (base := base) D_ring_among T 
  have C_judged_dealings := cal_judged_dealings (P := P) (w := w) (base := base) D_judged_dealings T (C_need_dealings.mono (by decide)) (C_first_lost.mono (by decide)) (C_all_reasons.mono (by decide)) (C_order_by.mono (by decide)) (C_ring_among.mono (by decide))
  have C_is_reason := cal_is_reason (P := P) (w := w) (base := base) D_is_reason T (C_is_whole.mono (by decide))
  have C_is_ring := cal_is_ring (P := P) (w := w) (base := base) D_is_ring T (C_is_reason.mono (by decide))
  have C_is_order := cal_is_order (P := P) (w := w) (base := base) D_is_order T (C_is_whole.mono (by decide))
  have C_is_verdict := cal_is_verdict (P := P) (w := w) (base := base) D_is_verdict T (C_need_dealings.mono (by decide)) (C_first_lost.mono (by decide)) (C_is_whole.mono (by decide)) (C_all_reasons.mono (by decide)) (C_is_order.mono (by decide)) (C_is_ring.mono (by decide))
  have C__law_jar := cal__law_jar (P := P) (w := w) (base := base) D__law_jar T 
  have C__law_take := cal__law_take (P := P) (w := w) (base := base) D__law_take T 
  have C__law_names := cal__law_names (P := P) (w := w) (base := base) D__law_names T (C__law_take.mono (by decide))
  have C__law_turns := cal__law_turns (P := P) (w := w) (base := base) D__law_turns T (C__law_take.mono (by decide))
  have C__law_doings := cal__law_doings (P := P) (w := w) (base := base) D__law_doings T (C__law_take.mono (by decide))
  have C__law_dealt := cal__law_dealt (P := P) (w := w) (base := base) D__law_dealt T (C__law_take.mono (by decide)) (C__law_names.mono (by decide)) (C__law_turns.mono (by decide)) (C__law_doings.mono (by decide))
  have C__law_writer := cal__law_writer (P := P) (w := w) (base := base) D__law_writer T 
  have C__law_other_read := cal__law_other_read (P := P) (w := w) (base := base) D__law_other_read T (C__law_take.mono (by decide))
  have C__law_bent := cal__law_bent (P := P) (w := w) (base := base) D__law_bent T (C__law_take.mono (by decide)) (C__law_other_read.mono (by decide)) (C__law_writer.mono (by decide))
  have C__law_stands := cal__law_stands (P := P) (w := w) (base := base) D__law_stands T 
  have C__law_right := cal__law_right (P := P) (w := w) (base := base) D__law_right T (C_judged_dealings.mono (by decide)) (C_is_verdict.mono (by decide)) (C__law_stands.mono (by decide))
  exact ok_law F T (C__law_jar.mono (by decide)) (C__law_take.mono (by decide)) (C__law_dealt.mono (by decide)) (C__law_bent.mono (by decide)) (C__law_right.mono (by decide))
theorem law_mk {fa : Addr} {l : PySem.W.OpenLaw} (X : K.In h) (G : h.Ns mainGlobals mg) (hfa : mg "law" = some (.ref fa)) (T : Bt mg) (D_is_whole : DefAt K mg "is_whole" s_is_whole ["some", "least", "most"]) (D_is_worth : DefAt K mg "is_worth" s_is_worth ["some"]) (D_is_name : DefAt K mg "is_name" s_is_name ["some"]) (D_is_dealing_deed : DefAt K mg "is_dealing_deed" s_is_dealing_deed ["some"]) (D_is_dealing : DefAt K mg "is_dealing" s_is_dealing ["some"]) (D_written_by : DefAt K mg "written_by" s_written_by ["dealing"]) (D_are_worths : DefAt K mg "are_worths" s_are_worths ["some"]) (D_versions_fit : DefAt K mg "versions_fit" s_versions_fit ["dealings", "versions"]) (D_need_dealings : DefAt K mg "need_dealings" s_need_dealings ["dealings", "versions"]) (D_writers_of : DefAt K mg "writers_of" s_writers_of ["dealings"]) (D_reads_ahead : DefAt K mg "reads_ahead" s_reads_ahead ["dealing"]) (D_reasons_after : DefAt K mg "reasons_after" s_reasons_after ["versions", "writers"]) (D_reasons_of_time : DefAt K mg "reasons_of_time" s_reasons_of_time ["dealings"]) (D_reasons_of_read : DefAt K mg "reasons_of_read" s_reasons_of_read ["number", "name", "worth", "versions", "writers"]) (D_all_reasons : DefAt K mg "all_reasons" s_all_reasons ["dealings", "versions", "timed"]) (D_first_lost : DefAt K mg "first_lost" s_first_lost ["dealings"]) (D_order_by : DefAt K mg "order_by" s_order_by ["many", "some"]) (D_ring_among : DefAt K mg "ring_among" s_ring_among ["left", "some"]) (D_judged_dealings : DefAt K mg "judged_dealings" s_judged_dealings ["dealings", "versions", "timed"]) (D_is_reason : DefAt K mg "is_reason" s_is_reason ["some", "known"]) (D_is_ring : DefAt K mg "is_ring" s_is_ring ["some", "known"]) (D_is_order : DefAt K mg "is_order" s_is_order ["some", "many", "known"]) (D_is_verdict : DefAt K mg "is_verdict" s_is_verdict ["dealings", "versions", "timed", "told"]) (D__law_jar : DefAt K mg "_law_jar" s__law_jar ["cell"]) (D__law_take : DefAt K mg "_law_take" s__law_take ["jar", "many"]) (D__law_names : DefAt K mg "_law_names" s__law_names ["jar"]) (D__law_turns : DefAt K mg "_law_turns" s__law_turns ["jar", "many"]) (D__law_doings : DefAt K mg "_law_doings" s__law_doings ["jar", "names", "store", "versions"]) (D__law_dealt : DefAt K mg "_law_dealt" s__law_dealt ["jar", "most"]) (D__law_writer : DefAt K mg "_law_writer" s__law_writer ["some", "name", "worth"]) (D__law_other_read : DefAt K mg "_law_other_read" s__law_other_read ["jar", "doings", "versions"]) (D__law_bent : DefAt K mg "_law_bent" s__law_bent ["jar", "some", "versions"]) (D__law_stands : DefAt K mg "_law_stands" s__law_stands ["some", "versions", "timed", "order"]) (D__law_right : DefAt K mg "_law_right" s__law_right ["some", "versions", "turns", "timed", "is_bent"])
    (a : PySem.W.nsIn K mainGlobals "law" = some (some (.ref f))) (lk : K.lookup f = some ⟨oc, od, .func (PySem.W.fnOf "law" "law" (defArgs s_law) (defBody s_law) (defScope s_law) .none kV doc pm an cdv ct), osl⟩) (c : PySem.W.codeIn K cdv "law" = true) (k : PySem.W.keepIn K (.ref f) = true) :
    ∃ fd : FuncData, (∀ (s : Shared) (v : Value), BindsTo s fd ⟨[v], []⟩ [("script", v)]) ∧ ∀ base : Heap, K.In base → base.Ns mainGlobals mg → FnOk l.prog w K mg base CX0 8 fa fd ["script"] (spLaw K) := by
  have e := hfa.symm.trans (PySem.W.mg_of X G a)
  cases e
  exact ⟨PySem.W.fnOf "law" "law" (defArgs s_law) (defBody s_law) (defScope s_law) .none kV doc pm an cdv ct, fun s v => .of_eq rfl, fun base _ _ => all_ok T D_is_whole D_is_worth D_is_name D_is_dealing_deed D_is_dealing D_written_by D_are_worths D_versions_fit D_need_dealings D_writers_of D_reads_ahead D_reasons_after D_reasons_of_time D_reasons_of_read D_all_reasons D_first_lost D_order_by D_ring_among D_judged_dealings D_is_reason D_is_ring D_is_order D_is_verdict D__law_jar D__law_take D__law_names D__law_turns D__law_doings D__law_dealt D__law_writer D__law_other_read D__law_bent D__law_stands D__law_right (fun_mk (st := s_law) lk c k)⟩
end
theorem law_walk {l : PySem.W.OpenLaw} {q : Program} {loose : List Str} {XP : (Str → Option Value) → Heap → Prop} {YP : World → Heap → Prop} {d : DefRec} {K : Params → PySem.W.Frag} (hn : l.most = some 63) (hdf : d.params.defaults = [])
    (hY : ∀ (w : World) (h : Heap), YP w h → (K w.params).In h)
    (F : ∀ (w : World) (mg : Str → Option Value) (fa : Addr) (h : Heap), (K w.params).In h → h.Ns mainGlobals mg → mg d.name = some (.ref fa) →
      ∃ fd : FuncData, (∀ (s : Shared) (u : Value), BindsTo s fd ⟨[u], []⟩ [("script", u)]) ∧ ∀ base : Heap, (K w.params).In base → base.Ns mainGlobals mg → FnOk l.prog w (K w.params) mg base CX0 8 fa fd ["script"] (spLaw (K w.params))) :
    PySem.W.WalkO q loose XP YP l.row.toRowW d [] (fun f vs => PySem.call f vs) :=
  L2.walk_of (n := 63) (k := 8) (x := "script") (CX := fun _ => CX0) (sp := fun w => spLaw (K w.params)) hn (by decide) hdf ⟨rfl, by decide, by decide⟩ hY F (fun _ _ a ns _ _ hS => ⟨a, ns, rfl, hS, fun _ => rfl⟩) fun _ _ _ _ _ z => z
end Tk
open PySem PySem.W PyProof.Rows
set_option maxRecDepth 100000 in
set_option maxHeartbeats 0 in
theorem PySem.Challenge.cw_talejudge_k41_whole_as_one_by_one_holds : PySem.Challenge.rw_talejudge_k41_whole_as_one_by_one.Holds := by
  w_on; o_law; k_head; (case hw => w_witness2)
  k_fill
  refine Tk.law_walk (l := PySem.Challenge.rw_talejudge_k41_whole_as_one_by_one) rfl rfl (fun w h Y => PySem.W.kIn_of Y) ?F
  case F =>
    intro w mg fa h KX G hmg
    refine' Tk.law_mk KX G hmg (Tk.bt_mk KX G ?z0 ?z1 ?z2 ?z3 ?z4 ?z5 ?z6 ?z7 ?z8 ?z9 ?z10 ?z11 ?z12 ?z13 ?z14 ?y0 ?y1 ?y2 ?y3 ?y4)
      (Tk.da_is_whole KX G ?a0 ?l0 ?c0 ?k0)
      (Tk.da_is_worth KX G ?a1 ?l1 ?c1 ?k1)
      (Tk.da_is_name KX G ?a2 ?l2 ?c2 ?k2)
      (Tk.da_is_dealing_deed KX G ?a3 ?l3 ?c3 ?k3)
      (Tk.da_is_dealing KX G ?a4 ?l4 ?c4 ?k4)
      (Tk.da_written_by KX G ?a5 ?l5 ?c5 ?k5)
      (Tk.da_are_worths KX G ?a6 ?l6 ?c6 ?k6)
      (Tk.da_versions_fit KX G ?a7 ?l7 ?c7 ?k7)
      (Tk.da_need_dealings KX G ?a8 ?l8 ?c8 ?k8)
      (Tk.da_writers_of KX G ?a9 ?l9 ?c9 ?k9)
      (Tk.da_reads_ahead KX G ?a10 ?l10 ?c10 ?k10)
      (Tk.da_reasons_after KX G ?a11 ?l11 ?c11 ?k11)
      (Tk.da_reasons_of_time KX G ?a12 ?l12 ?c12 ?k12)
      (Tk.da_reasons_of_read KX G ?a13 ?l13 ?c13 ?k13)
      (Tk.da_all_reasons KX G ?a14 ?l14 ?c14 ?k14)
      (Tk.da_first_lost KX G ?a15 ?l15 ?c15 ?k15)
      (Tk.da_order_by KX G ?a16 ?l16 ?c16 ?k16)
      (Tk.da_ring_among KX G ?a17 ?l17 ?c17 ?k17)
      (Tk.da_judged_dealings KX G ?a18 ?l18 ?c18 ?k18)
      (Tk.da_is_reason KX G ?a19 ?l19 ?c19 ?k19)
      (Tk.da_is_ring KX G ?a20 ?l20 ?c20 ?k20)
      (Tk.da_is_order KX G ?a21 ?l21 ?c21 ?k21)
      (Tk.da_is_verdict KX G ?a22 ?l22 ?c22 ?k22)
      (Tk.da__law_jar KX G ?a23 ?l23 ?c23 ?k23)
      (Tk.da__law_take KX G ?a24 ?l24 ?c24 ?k24)
      (Tk.da__law_names KX G ?a25 ?l25 ?c25 ?k25)
      (Tk.da__law_turns KX G ?a26 ?l26 ?c26 ?k26)
      (Tk.da__law_doings KX G ?a27 ?l27 ?c27 ?k27)
      (Tk.da__law_dealt KX G ?a28 ?l28 ?c28 ?k28)
      (Tk.da__law_writer KX G ?a29 ?l29 ?c29 ?k29)
      (Tk.da__law_other_read KX G ?a30 ?l30 ?c30 ?k30)
      (Tk.da__law_bent KX G ?a31 ?l31 ?c31 ?k31)
      (Tk.da__law_stands KX G ?a32 ?l32 ?c32 ?k32)
      (Tk.da__law_right KX G ?a33 ?l33 ?c33 ?k33)
      ?aL ?lL ?cL ?kL
    (case z0 => k_is)
    (case z1 => k_is)
    (case z2 => k_is)
    (case z3 => k_is)
    (case z4 => k_is)
    (case z5 => k_is)
    (case z6 => k_is)
    (case z7 => k_is)
    (case z8 => k_is)
    (case z9 => k_is)
    (case z10 => k_is)
    (case z11 => k_is)
    (case z12 => k_is)
    (case z13 => k_is)
    (case z14 => k_is)
    (case y0 => k_is)
    (case y1 => k_is)
    (case y2 => k_is)
    (case y3 => k_is)
    (case y4 => k_is)
    (case a0 => k_is)
    (case l0 => k_is)
    (case c0 => k_is)
    (case k0 => k_is)
    (case a1 => k_is)
    (case l1 => k_is)
    (case c1 => k_is)
    (case k1 => k_is)
    (case a2 => k_is)
    (case l2 => k_is)
    (case c2 => k_is)
    (case k2 => k_is)
    (case a3 => k_is)
    (case l3 => k_is)
    (case c3 => k_is)
    (case k3 => k_is)
    (case a4 => k_is)
    (case l4 => k_is)
    (case c4 => k_is)
    (case k4 => k_is)
    (case a5 => k_is)
    (case l5 => k_is)
    (case c5 => k_is)
    (case k5 => k_is)
    (case a6 => k_is)
    (case l6 => k_is)
    (case c6 => k_is)
    (case k6 => k_is)
    (case a7 => k_is)
    (case l7 => k_is)
    (case c7 => k_is)
    (case k7 => k_is)
    (case a8 => k_is)
    (case l8 => k_is)
    (case c8 => k_is)
    (case k8 => k_is)
    (case a9 => k_is)
    (case l9 => k_is)
    (case c9 => k_is)
    (case k9 => k_is)
    (case a10 => k_is)
    (case l10 => k_is)
    (case c10 => k_is)
    (case k10 => k_is)
    (case a11 => k_is)
    (case l11 => k_is)
    (case c11 => k_is)
    (case k11 => k_is)
    (case a12 => k_is)
    (case l12 => k_is)
    (case c12 => k_is)
    (case k12 => k_is)
    (case a13 => k_is)
    (case l13 => k_is)
    (case c13 => k_is)
    (case k13 => k_is)
    (case a14 => k_is)
    (case l14 => k_is)
    (case c14 => k_is)
    (case k14 => k_is)
    (case a15 => k_is)
    (case l15 => k_is)
    (case c15 => k_is)
    (case k15 => k_is)
    (case a16 => k_is)
    (case l16 => k_is)
    (case c16 => k_is)
    (case k16 => k_is)
    (case a17 => k_is)
    (case l17 => k_is)
    (case c17 => k_is)
    (case k17 => k_is)
    (case a18 => k_is)
    (case l18 => k_is)
    (case c18 => k_is)
    (case k18 => k_is)
    (case a19 => k_is)
    (case l19 => k_is)
    (case c19 => k_is)
    (case k19 => k_is)
    (case a20 => k_is)
    (case l20 => k_is)
    (case c20 => k_is)
    (case k20 => k_is)
    (case a21 => k_is)
    (case l21 => k_is)
    (case c21 => k_is)
    (case k21 => k_is)
    (case a22 => k_is)
    (case l22 => k_is)
    (case c22 => k_is)
    (case k22 => k_is)
    (case a23 => k_is)
    (case l23 => k_is)
    (case c23 => k_is)
    (case k23 => k_is)
    (case a24 => k_is)
    (case l24 => k_is)
    (case c24 => k_is)
    (case k24 => k_is)
    (case a25 => k_is)
    (case l25 => k_is)
    (case c25 => k_is)
    (case k25 => k_is)
    (case a26 => k_is)
    (case l26 => k_is)
    (case c26 => k_is)
    (case k26 => k_is)
    (case a27 => k_is)
    (case l27 => k_is)
    (case c27 => k_is)
    (case k27 => k_is)
    (case a28 => k_is)
    (case l28 => k_is)
    (case c28 => k_is)
    (case k28 => k_is)
    (case a29 => k_is)
    (case l29 => k_is)
    (case c29 => k_is)
    (case k29 => k_is)
    (case a30 => k_is)
    (case l30 => k_is)
    (case c30 => k_is)
    (case k30 => k_is)
    (case a31 => k_is)
    (case l31 => k_is)
    (case c31 => k_is)
    (case k31 => k_is)
    (case a32 => k_is)
    (case l32 => k_is)
    (case c32 => k_is)
    (case k32 => k_is)
    (case a33 => k_is)
    (case l33 => k_is)
    (case c33 => k_is)
    (case k33 => k_is)
    (case aL => k_is)
    (case lL => k_is)
    (case cL => k_is)
    (case kL => k_is)
