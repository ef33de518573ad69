import PyProof.Rows.All
import Wide.All
import OpenK.AllK
import Wide.FinOn
import HandS.ForMost
import HandS.Evl
import HandS.TupAny
import HandS.Style
import HandS.Conv
import HandS.Deep
import HandS.IsInst
import HandS.DictComp
import HandS.More
import HandS.Sort
import HandS.SortInts
import HandS.Flow
import HandS.TryOnly
import HandS.Defaults
import HandS.ExcInit
import HandS.ExcField
import HandS.ExcOwn
import HandS.WordsExc
import PySem.Challenge.RW_nodoubt_k22_whole_read_words
import HandS.Codes
import KE.KStateDown
import HandS.Head0
import HandS.Head1
import HandS.Head2
import HandS.HeadEnd
import HandS.HeadHook1
import HandS.HeadHook2
set_option Elab.async false
set_option linter.all false
set_option maxRecDepth 100000
set_option maxHeartbeats 1000000
/-! Data over the hand layer: what a reading gives, told by data (PyData) alone. -/
namespace Nd
open PySem PySem.Spec PyProof.Rows L2
open Evl (Ex Ex.refl Ex.trans Ex.new)
/-- M: the addresses of what may still change -/
abbrev Mt := Addr → Prop
/-- a dict's pairs: ints to ints -/
abbrev DkR : List (Key × V) → List (PyData × PyData) → Prop := Paired fun p q => ∃ k v : Int, p = (Sum.inl k, .int v) ∧ q = (.int k, .int v)
mutual
inductive Dt (M : Mt) (H : Hp) : V → PyData → Prop
  | non : Dt M H .non .none
  | bl (b : Bool) : Dt M H (.bl b) (.bool b)
  | int (i : Int) : Dt M H (.int i) (.int i)
  | str (x : Str) : Dt M H (.str x) (.str x)
  | lst {a : Addr} {xs : List V} {ds : List PyData} : ¬ M a → H a = some (.lst xs) → DtL M H xs ds → Dt M H (.ref a) (.list ds)
  | tup {a : Addr} {xs : List V} {ds : List PyData} : ¬ M a → H a = some (.tup xs) → DtL M H xs ds → Dt M H (.ref a) (.tuple ds)
  | dct {a : Addr} {kvs : List (Key × V)} {ds : List (PyData × PyData)} : ¬ M a → H a = some (.dK kvs) → DkR kvs ds → Dt M H (.ref a) (.dict ds)
inductive DtL (M : Mt) (H : Hp) : List V → List PyData → Prop
  | nil : DtL M H [] []
  | cons {v : V} {vs : List V} {d : PyData} {ds : List PyData} : Dt M H v d → DtL M H vs ds → DtL M H (v :: vs) (d :: ds)
end
/-- what is not in M stays -/
def Xt (M : Mt) (H H' : Hp) : Prop := ∀ b o, ¬ M b → H b = some o → H' b = some o
theorem Xt.of {M : Mt} {H H' : Hp} (e : Ex H H') : Xt M H H' := fun b o _ h => e b o h
theorem Xt.refl {M : Mt} {H : Hp} : Xt M H H := fun _ _ _ h => h
theorem Xt.trans {M : Mt} {H H1 H2 : Hp} (a : Xt M H H1) (b : Xt M H1 H2) : Xt M H H2 := fun c o n h => b c o n (a c o n h)
theorem Xt.ex {M : Mt} {H H1 H2 : Hp} (a : Xt M H H1) (b : Ex H1 H2) : Xt M H H2 := a.trans (.of b)
theorem Xt.upd {M : Mt} {H H1 : Hp} {p : Addr} {o : HO} (a : Xt M H H1) (h : M p) : Xt M H (upd H1 p o) := fun b u n e => by
  rw [upd_ne (fun z => n (by rw [z]; exact h))]
  exact a b u n e
mutual
theorem Dt.mono {M M' : Mt} {H H' : Hp} (x : ∀ b o, ¬ M b → H b = some o → H' b = some o ∧ ¬ M' b) : ∀ {d : PyData} {v : V}, Dt M H v d → Dt M' H' v d
  | _, _, .non => .non
  | _, _, .bl b => .bl b
  | _, _, .int i => .int i
  | _, _, .str s => .str s
  | _, _, .lst n h r => .lst (x _ _ n h).2 (x _ _ n h).1 (DtL.mono x r)
  | _, _, .tup n h r => .tup (x _ _ n h).2 (x _ _ n h).1 (DtL.mono x r)
  | _, _, .dct n h r => .dct (x _ _ n h).2 (x _ _ n h).1 r
theorem DtL.mono {M M' : Mt} {H H' : Hp} (x : ∀ b o, ¬ M b → H b = some o → H' b = some o ∧ ¬ M' b) : ∀ {ds : List PyData} {vs : List V}, DtL M H vs ds → DtL M' H' vs ds
  | _, _, .nil => .nil
  | _, _, .cons h r => .cons (Dt.mono x h) (DtL.mono x r)
end
theorem Dt.xt {M : Mt} {H H' : Hp} {v : V} {d : PyData} (e : Xt M H H') (h : Dt M H v d) : Dt M H' v d := h.mono fun b o n q => ⟨e b o n q, n⟩
theorem DtL.xt {M : Mt} {H H' : Hp} {v : List V} {d : List PyData} (e : Xt M H H') (h : DtL M H v d) : DtL M H' v d := h.mono fun b o n q => ⟨e b o n q, n⟩
theorem Dt.ex {M : Mt} {H H' : Hp} {v : V} {d : PyData} (e : Ex H H') (h : Dt M H v d) : Dt M H' v d := h.xt (.of e)
theorem DtL.ex {M : Mt} {H H' : Hp} {v : List V} {d : List PyData} (e : Ex H H') (h : DtL M H v d) : DtL M H' v d := h.xt (.of e)
/-- less may change -/
theorem Dt.less {M M' : Mt} {H : Hp} {v : V} {d : PyData} (x : ∀ b, M' b → M b) (h : Dt M H v d) : Dt M' H v d := h.mono fun b o n q => ⟨q, fun z => n (x b z)⟩
theorem DtL.less {M M' : Mt} {H : Hp} {v : List V} {d : List PyData} (x : ∀ b, M' b → M b) (h : DtL M H v d) : DtL M' H v d := h.mono fun b o n q => ⟨q, fun z => n (x b z)⟩
theorem DtL.length {M : Mt} {H : Hp} : ∀ {ds : List PyData} {vs : List V}, DtL M H vs ds → vs.length = ds.length
  | _, _, .nil => rfl
  | _, _, .cons _ r => by rw [List.length_cons, List.length_cons, r.length]
theorem DtL.get {M : Mt} {H : Hp} : ∀ {ds : List PyData} {vs : List V} {i : Nat} {d : PyData}, DtL M H vs ds → ds[i]? = some d → ∃ v, vs[i]? = some v ∧ Dt M H v d
  | _, _, _, _, .nil, h => by simp at h
  | _, _, 0, _, .cons q _, h => by
    simp only [List.getElem?_cons_zero, Option.some.injEq] at h
    subst h
    exact ⟨_, rfl, q⟩
  | _, _, i + 1, _, .cons _ r, h => by
    rw [List.getElem?_cons_succ] at h
    rw [List.getElem?_cons_succ]
    exact r.get h
theorem DtL.get' {M : Mt} {H : Hp} : ∀ {ds : List PyData} {vs : List V} {i : Nat} {v : V}, DtL M H vs ds → vs[i]? = some v → ∃ d, ds[i]? = some d ∧ Dt M H v d
  | _, _, _, _, .nil, h => by simp at h
  | _, _, 0, _, .cons q _, h => by
    simp only [List.getElem?_cons_zero, Option.some.injEq] at h
    subst h
    exact ⟨_, rfl, q⟩
  | _, _, i + 1, _, .cons _ r, h => by
    rw [List.getElem?_cons_succ] at h
    rw [List.getElem?_cons_succ]
    exact r.get' h
theorem DtL.app {M : Mt} {H : Hp} : ∀ {ds : List PyData} {vs : List V} {es : List PyData} {us : List V}, DtL M H vs ds → DtL M H us es → DtL M H (vs ++ us) (ds ++ es)
  | _, _, _, _, .nil, h => h
  | _, _, _, _, .cons q r, h => .cons q (r.app h)
theorem DtL.one {M : Mt} {H : Hp} {v : V} {d : PyData} (h : Dt M H v d) : DtL M H [v] [d] := .cons h .nil
theorem DtL.rev {M : Mt} {H : Hp} : ∀ {ds : List PyData} {vs : List V}, DtL M H vs ds → DtL M H vs.reverse ds.reverse
  | _, _, .nil => .nil
  | _, _, .cons q r => by
    rw [List.reverse_cons, List.reverse_cons]
    exact r.rev.app (.one q)
theorem DtL.ints {M : Mt} {H : Hp} : ∀ {ns : List Int} {vs : List V}, DtL M H vs (ns.map PyData.int) → vs = ns.map V.int
  | [], _, .nil => rfl
  | _ :: _, _, .cons (.int _) r => by rw [List.map_cons, r.ints]
theorem DtL.bools {M : Mt} {H : Hp} : ∀ {ns : List Bool} {vs : List V}, DtL M H vs (ns.map PyData.bool) → vs = ns.map V.bl
  | [], _, .nil => rfl
  | _ :: _, _, .cons (.bl _) r => by rw [List.map_cons, r.bools]
theorem DtL.strs {M : Mt} {H : Hp} : ∀ {ns : List Str} {vs : List V}, DtL M H vs (ns.map PyData.str) → vs = ns.map V.str
  | [], _, .nil => rfl
  | _ :: _, _, .cons (.str _) r => by rw [List.map_cons, r.strs]
theorem DtL.of_ints {M : Mt} {H : Hp} : ∀ ns : List Int, DtL M H (ns.map V.int) (ns.map PyData.int)
  | [] => .nil
  | n :: r => .cons (.int n) (of_ints r)
mutual
theorem Dt.dp {M : Mt} {H : Hp} {K : PySem.W.Frag} : ∀ {d : PyData} {v : V}, PyData.canLay0 d = true → Dt M H v d → Dp K H v d
  | _, _, _, .non => .non
  | _, _, _, .bl b => .bl b
  | _, _, _, .int i => .int i
  | _, _, _, .str s => .str s
  | _, _, c, .lst _ h r => .lst (SqL.of h) (r.dp (by simpa [PyData.canLay0] using c))
  | _, _, c, .tup _ h r => .tup (SqT.of h) (r.dp (by simpa [PyData.canLay0] using c))
  | _, _, c, .dct _ _ _ => by simp [PyData.canLay0] at c
theorem DtL.dp {M : Mt} {H : Hp} {K : PySem.W.Frag} : ∀ {ds : List PyData} {vs : List V}, PyData.canLayAll0 ds = true → DtL M H vs ds → DpAll K H vs ds
  | [], _, _, .nil => .nil
  | d :: ds, _, c, .cons h r => by
    have c' : PyData.canLay0 d = true ∧ PyData.canLayAll0 ds = true := by simpa [PyData.canLayAll0] using c
    exact .cons (h.dp c'.1) (r.dp c'.2)
end
/-- what may change stands there -/
def Mok (M : Mt) (H : Hp) : Prop := ∀ b, M b → H b ≠ none
theorem Mok.ex {M : Mt} {H H' : Hp} (m : Mok M H) (e : Ex H H') : Mok M H' := fun b hb z => by
  cases q : H b with
  | none => exact m b hb q
  | some o =>
    rw [e b o q] at z
    cases z
theorem Mok.upd {M : Mt} {H : Hp} {p : Addr} {o : HO} (m : Mok M H) : Mok M (upd H p o) := fun b hb z => by
  by_cases e : b = p
  · rw [e, upd_same] at z
    cases z
  · rw [upd_ne e] at z
    exact m b hb z
theorem Mok.new {M : Mt} {H : Hp} {p : Addr} (m : Mok M H) (h : H p = none) : ¬ M p := fun z => m p z h
/-- a slot: data, or a value that is known itself -/
inductive Sl where
  | d (x : PyData)
  | r (v : V)
abbrev Ev := List (Option Sl)
def SlR (M : Mt) (H : Hp) (o : Option V) : Sl → Prop
  | .d x => ∃ v, o = some v ∧ Dt M H v x
  | .r v => o = some v
structure EnvR (M : Mt) (H : Hp) (σ : L2.St) (ρ : Ev) : Prop where
  len : σ.length = ρ.length
  at_ : ∀ (i : Nat) (s : Sl), ρ[i]? = some (some s) → ∃ o : Option V, σ[i]? = some o ∧ SlR M H o s
theorem SlR.xt {M : Mt} {H H' : Hp} {o : Option V} {s : Sl} (e : Xt M H H') (h : SlR M H o s) : SlR M H' o s := by
  cases s with
  | d x =>
    obtain ⟨v, a, b⟩ := h
    exact ⟨v, a, b.xt e⟩
  | r v => exact h
theorem EnvR.xt {M : Mt} {H H' : Hp} {σ : L2.St} {ρ : Ev} (e : Xt M H H') (h : EnvR M H σ ρ) : EnvR M H' σ ρ :=
  ⟨h.len, fun i s q => by
    obtain ⟨o, a, b⟩ := h.at_ i s q
    exact ⟨o, a, b.xt e⟩⟩
theorem EnvR.ex {M : Mt} {H H' : Hp} {σ : L2.St} {ρ : Ev} (e : Ex H H') (h : EnvR M H σ ρ) : EnvR M H' σ ρ := h.xt (.of e)
theorem EnvR.set {M : Mt} {H : Hp} {σ : L2.St} {ρ : Ev} (h : EnvR M H σ ρ) {v : V} {s : Sl} (j : Nat) (r : SlR M H (some v) s) : EnvR M H (σ.set j (some v)) (ρ.set j (some s)) := by
  refine ⟨by rw [List.length_set, List.length_set]; exact h.len, fun i s' q => ?_⟩
  by_cases e : j = i
  · subst e
    rw [List.getElem?_set] at q
    rw [List.getElem?_set]
    by_cases hl : j < ρ.length
    · have hl' : j < σ.length := by rw [h.len]; exact hl
      simp only [hl, if_true, Option.some.injEq] at q
      subst q
      simp only [hl', if_true]
      exact ⟨_, rfl, r⟩
    · simp [hl] at q
  · rw [List.getElem?_set_ne e] at q
    rw [List.getElem?_set_ne e]
    exact h.at_ i s' q
/-- a slot may be forgotten -/
def LeE : Ev → Ev → Prop
  | [], [] => True
  | a :: as, b :: bs => (b = none ∨ b = a) ∧ LeE as bs
  | _, _ => False
theorem LeE.refl : ∀ r : Ev, LeE r r
  | [] => trivial
  | _ :: r => ⟨.inr rfl, LeE.refl r⟩
theorem LeE.len : ∀ {a b : Ev}, LeE a b → a.length = b.length
  | [], [], _ => rfl
  | _ :: as, _ :: bs, h => by rw [List.length_cons, List.length_cons, LeE.len h.2]
  | [], _ :: _, h => h.elim
  | _ :: _, [], h => h.elim
theorem LeE.get : ∀ {a b : Ev}, LeE a b → ∀ (i : Nat) (s : Sl), b[i]? = some (some s) → a[i]? = some (some s)
  | [], [], _, i, s, q => by simp at q
  | x :: as, y :: bs, h, 0, s, q => by
    simp only [List.getElem?_cons_zero, Option.some.injEq] at q
    subst q
    rcases h.1 with z | z
    · cases z
    · rw [List.getElem?_cons_zero, ← z]
  | _ :: as, _ :: bs, h, i + 1, s, q => by
    rw [List.getElem?_cons_succ] at q
    rw [List.getElem?_cons_succ]
    exact LeE.get h.2 i s q
  | [], _ :: _, h, _, _, _ => h.elim
  | _ :: _, [], h, _, _, _ => h.elim
theorem EnvR.le {M : Mt} {H : Hp} {σ : L2.St} {a b : Ev} (l : LeE a b) (h : EnvR M H σ a) : EnvR M H σ b :=
  ⟨h.len.trans l.len, fun i s q => h.at_ i s (l.get i s q)⟩
/-! ### what a reading gives -/
def Den (te : TE) (ρ : Ev) (d : PyData) : Prop := ∀ M σ H, Mok M H → EnvR M H σ ρ → ∀ Q : VK, (∀ v H2, Ex H H2 → Dt M H2 v d → Q v H2) → te σ H Q
def DenT (tt : TT) (ρ : Ev) (b : Bool) : Prop := ∀ M σ H, Mok M H → EnvR M H σ ρ → ∀ Q : Bool → Hp → Prop, (∀ H2, Ex H H2 → Q b H2) → tt σ H Q
def DenA (ta : TA) (ρ : Ev) (ds : List PyData) : Prop := ∀ M σ H, Mok M H → EnvR M H σ ρ → ∀ Q : List V → Hp → Prop, (∀ vs H2, Ex H H2 → DtL M H2 vs ds → Q vs H2) → ta σ H Q
/-- operators, calls on values -/
def R2D (r : R2) (x y z : PyData) : Prop := ∀ M H v u, Mok M H → Dt M H v x → Dt M H u y → ∀ Q : VK, (∀ w H2, Ex H H2 → Dt M H2 w z → Q w H2) → r v u H Q
def RCD (r : List V → Hp → VK → Prop) (ds : List PyData) (z : PyData) : Prop := ∀ M H vs, Mok M H → DtL M H vs ds → ∀ Q : VK, (∀ w H2, Ex H H2 → Dt M H2 w z → Q w H2) → r vs H Q
section
variable {K : PySem.W.Frag} {ρ : Ev} {ta tb te : TE} {tt tu : TT} {x y z d : PyData} {ds : List PyData} {r : R2}
theorem Den.is {d' : PyData} (h : Den te ρ d) (e : d = d') : Den te ρ d' := e ▸ h
theorem DenT.is {b b' : Bool} (h : DenT tt ρ b) (e : b = b') : DenT tt ρ b' := e ▸ h
theorem dn_var {i : Nat} (h : ρ[i]? = some (some (.d d))) : Den (tVar i) ρ d := fun M σ H m e Q q => by
  obtain ⟨o, a, v, b, c⟩ := e.at_ i _ h
  subst b
  exact ⟨v, a, q v H (Ex.refl H) c⟩
theorem dn_int {i : Int} : Den (tC (.int i)) ρ (.int i) := fun M σ H m e Q q => q _ H (Ex.refl H) (.int i)
theorem dn_bl {b : Bool} : Den (tC (.bl b)) ρ (.bool b) := fun M σ H m e Q q => q _ H (Ex.refl H) (.bl b)
theorem dn_non : Den (tC .non) ρ .none := fun M σ H m e Q q => q _ H (Ex.refl H) .non
theorem dn_str {s : Str} : Den (tC (.str s)) ρ (.str s) := fun M σ H m e Q q => q _ H (Ex.refl H) (.str s)
theorem dn_op (ha : Den ta ρ x) (hb : Den tb ρ y) (hr : R2D r x y z) : Den (tOp r ta tb) ρ z := fun M σ H m e Q q =>
  ha M σ H m e _ fun v H1 e1 d1 => hb M σ H1 (m.ex e1) (e.ex e1) _ fun u H2 e2 d2 => hr M H2 v u (m.ex (e1.trans e2)) (d1.ex e2) d2 Q fun w H3 e3 d3 => q w H3 (e1.trans (e2.trans e3)) d3
theorem dn_un {r : V → Hp → VK → Prop} (ha : Den ta ρ x) (hr : RCD (fun vs H Q => ∃ v, vs = [v] ∧ r v H Q) [x] z) : Den (tUn r ta) ρ z := fun M σ H m e Q q =>
  ha M σ H m e _ fun v H1 e1 d1 => by
    obtain ⟨v', ev, h⟩ := hr M H1 [v] (m.ex e1) (.one d1) Q fun w H3 e3 d3 => q w H3 (e1.trans e3) d3
    cases ev
    exact h
theorem da_nil : DenA tNil ρ [] := fun M σ H m e Q q => q _ H (Ex.refl H) .nil
theorem da_cons {tr : TA} (h : Den te ρ d) (hr : DenA tr ρ ds) : DenA (tCons te tr) ρ (d :: ds) := fun M σ H m e Q q =>
  h M σ H m e _ fun v H1 e1 d1 => hr M σ H1 (m.ex e1) (e.ex e1) _ fun vs H2 e2 d2 => q _ H2 (e1.trans e2) (.cons (d1.ex e2) d2)
theorem dn_cb {r : List V → Hp → VK → Prop} {t : TA} (h : DenA t ρ ds) (hr : RCD r ds z) : Den (tCB r t) ρ z := fun M σ H m e Q q =>
  h M σ H m e _ fun vs H1 e1 d1 => hr M H1 vs (m.ex e1) d1 Q fun w H2 e2 d2 => q w H2 (e1.trans e2) d2
theorem dn_tup {t : TA} (h : DenA t ρ ds) (hl : ds.length ≤ 100000) : Den (tTup t) ρ (.tuple ds) := fun M σ H m e Q q =>
  h M σ H m e _ fun vs H1 e1 d1 => ⟨Evl.sz_of (by rw [d1.length]; exact hl), fun p hp => q _ _ (e1.trans (Ex.new hp)) (.tup ((m.ex e1).new hp) upd_same (d1.ex (Ex.new hp)))⟩
theorem dn_lst {t : TA} (h : DenA t ρ ds) (hl : ds.length ≤ 100000) : Den (tLst t) ρ (.list ds) := fun M σ H m e Q q =>
  h M σ H m e _ fun vs H1 e1 d1 => ⟨Evl.sz_of (by rw [d1.length]; exact hl), fun p hp => q _ _ (e1.trans (Ex.new hp)) (.lst ((m.ex e1).new hp) upd_same (d1.ex (Ex.new hp)))⟩
theorem dn_if {b : Bool} (h : DenT tt ρ b) (h1 : b = true → Den ta ρ d) (h2 : b = false → Den tb ρ d) : Den (tIf tt ta tb) ρ d := fun M σ H m e Q q =>
  h M σ H m e _ fun H1 e1 => by
    cases b with
    | true => exact iteT (h1 rfl M σ H1 (m.ex e1) (e.ex e1) Q fun v H2 e2 d2 => q v H2 (e1.trans e2) d2)
    | false => exact iteF (h2 rfl M σ H1 (m.ex e1) (e.ex e1) Q fun v H2 e2 d2 => q v H2 (e1.trans e2) d2)
theorem dn_andV {a b : Bool} (h1 : Den ta ρ (.bool a)) (h2 : a = true → Den tb ρ (.bool b)) : Den (tAndV ta tb) ρ (.bool (a && b)) := fun M σ H m e Q q =>
  h1 M σ H m e _ fun v H1 e1 d1 => by
    cases d1
    refine ⟨a, rfl, ?_⟩
    cases a with
    | true => exact iteT (h2 rfl M σ H1 (m.ex e1) (e.ex e1) Q fun v H2 e2 d2 => q v H2 (e1.trans e2) d2)
    | false => exact iteF (q _ H1 e1 (.bl false))
theorem dn_orV {a b : Bool} (h1 : Den ta ρ (.bool a)) (h2 : a = false → Den tb ρ (.bool b)) : Den (tOrV ta tb) ρ (.bool (a || b)) := fun M σ H m e Q q =>
  h1 M σ H m e _ fun v H1 e1 d1 => by
    cases d1
    refine ⟨a, rfl, ?_⟩
    cases a with
    | true => exact iteT (q _ H1 e1 (.bl true))
    | false => exact iteF (h2 rfl M σ H1 (m.ex e1) (e.ex e1) Q fun v H2 e2 d2 => q v H2 (e1.trans e2) d2)
theorem dn_notV {a : Bool} (h1 : Den ta ρ (.bool a)) : Den (tNotV ta) ρ (.bool (!a)) := fun M σ H m e Q q =>
  h1 M σ H m e _ fun v H1 e1 d1 => by
    cases d1
    exact ⟨a, rfl, q _ H1 e1 (.bl _)⟩
theorem dt_test {b : Bool} (h : Den te ρ (.bool b)) : DenT (tTest te) ρ b := fun M σ H m e Q q =>
  h M σ H m e _ fun v H1 e1 d1 => by
    cases d1
    exact ⟨b, rfl, q H1 e1⟩
theorem dt_B {b : Bool} (h : Den te ρ (.bool b)) : DenT (tB te) ρ b := fun M σ H m e Q q =>
  h M σ H m e _ fun v H1 e1 d1 => by
    cases d1
    exact ⟨b, rfl, q H1 e1⟩
theorem dt_and {a b : Bool} (h1 : DenT tt ρ a) (h2 : a = true → DenT tu ρ b) : DenT (tAnd tt tu) ρ (a && b) := fun M σ H m e Q q =>
  h1 M σ H m e _ fun H1 e1 => by
    cases a with
    | true => exact iteT (h2 rfl M σ H1 (m.ex e1) (e.ex e1) Q fun H2 e2 => q H2 (e1.trans e2))
    | false => exact iteF (q H1 e1)
theorem dt_or {a b : Bool} (h1 : DenT tt ρ a) (h2 : a = false → DenT tu ρ b) : DenT (tOr tt tu) ρ (a || b) := fun M σ H m e Q q =>
  h1 M σ H m e _ fun H1 e1 => by
    cases a with
    | true => exact iteT (q H1 e1)
    | false => exact iteF (h2 rfl M σ H1 (m.ex e1) (e.ex e1) Q fun H2 e2 => q H2 (e1.trans e2))
theorem dt_not {a : Bool} (h1 : DenT tt ρ a) : DenT (tNot tt) ρ (!a) := fun M σ H m e Q q => h1 M σ H m e _ fun H1 e1 => q H1 e1
theorem dt_yes : DenT tYes ρ true := fun M σ H m e Q q => q H (Ex.refl H)
/-- truth of data -/
def tru : PyData → Bool
  | .none => false
  | .bool b => b
  | .int i => i != 0
  | .str s => (s.length : Int) != 0
  | .list xs => !xs.isEmpty
  | .tuple xs => !xs.isEmpty
  | .dict kvs => !kvs.isEmpty
theorem isE {M : Mt} {H : Hp} {vs : List V} (h : DtL M H vs ds) : (!ds.isEmpty) = !vs.isEmpty := by
  cases h <;> rfl
theorem tru_of {M : Mt} {H : Hp} {v : V} (h : Dt M H v d) (hs : ∀ s, d = .str s → s.length ≤ 100000) : TruV K v H (tru d) := by
  cases h with
  | non => rfl
  | bl b => rfl
  | int i => rfl
  | str s => exact ⟨Evl.sz_of (hs s rfl), rfl⟩
  | lst n h r => exact .inl ⟨_, SqL.of h, isE r⟩
  | tup n h r => exact .inr (.inl ⟨_, SqT.of h, isE r⟩)
  | dct n h r => exact .inr (.inr ⟨_, h, by cases r <;> rfl⟩)
theorem dt_truth (h : Den te ρ d) (hs : ∀ s, d = .str s → s.length ≤ 100000) : DenT (fun σ H Q => te σ H fun x H' => ∃ k, TruV K x H' k ∧ Q k H') ρ (tru d) := fun M σ H m e Q q =>
  h M σ H m e _ fun v H1 e1 d1 => ⟨_, tru_of d1 hs, q H1 e1⟩
/-! ### operators -/
theorem rd_I0 {g : Int → Int → V} {i j : Int} {z : PyData} (h : ∀ M H, Dt M H (g i j) z) : R2D (rI0 g) (.int i) (.int j) z := fun M H v u m a b Q q => by
  cases a
  cases b
  exact ⟨i, j, rfl, rfl, q _ H (Ex.refl H) (h M H)⟩
theorem rd_I {C : Int → Int → Prop} {g : Int → Int → V} {i j : Int} {z : PyData} (hc : C i j) (h : ∀ M H, Dt M H (g i j) z) : R2D (rI C g) (.int i) (.int j) z := fun M H v u m a b Q q => by
  cases a
  cases b
  exact ⟨i, j, rfl, rfl, hc, q _ H (Ex.refl H) (h M H)⟩
theorem rd_add {i j : Int} : R2D (rI0 fun i j => .int (i + j)) (.int i) (.int j) (.int (i + j)) := rd_I0 fun _ _ => .int _
theorem rd_sub {i j : Int} : R2D (rI0 fun i j => .int (i - j)) (.int i) (.int j) (.int (i - j)) := rd_I0 fun _ _ => .int _
theorem rd_lt {i j : Int} : R2D (rI0 fun i j => .bl (decide (i < j))) (.int i) (.int j) (.bool (decide (i < j))) := rd_I0 fun _ _ => .bl _
theorem rd_le {i j : Int} : R2D (rI0 fun i j => .bl (decide (i ≤ j))) (.int i) (.int j) (.bool (decide (i ≤ j))) := rd_I0 fun _ _ => .bl _
theorem rd_gt {i j : Int} : R2D (rI0 fun i j => .bl (decide (j < i))) (.int i) (.int j) (.bool (decide (j < i))) := rd_I0 fun _ _ => .bl _
theorem rd_ge {i j : Int} : R2D (rI0 fun i j => .bl (decide (j ≤ i))) (.int i) (.int j) (.bool (decide (j ≤ i))) := rd_I0 fun _ _ => .bl _
theorem rd_eqI {i j : Int} : R2D rEq (.int i) (.int j) (.bool (decide (i = j))) := fun M H v u m a b Q q => by
  cases a
  cases b
  refine ⟨rfl, ?_⟩
  have e : decide (V.int i = V.int j) = decide (i = j) := by simp
  rw [e]
  exact q _ H (Ex.refl H) (.bl _)
theorem rd_eqS {i j : Str} : R2D rEq (.str i) (.str j) (.bool (decide (i = j))) := fun M H v u m a b Q q => by
  cases a
  cases b
  refine ⟨rfl, ?_⟩
  have e : decide (V.str i = V.str j) = decide (i = j) := by simp
  rw [e]
  exact q _ H (Ex.refl H) (.bl _)
theorem rd_neI {i j : Int} : R2D rNe (.int i) (.int j) (.bool (!decide (i = j))) := fun M H v u m a b Q q => by
  cases a
  cases b
  refine ⟨rfl, ?_⟩
  have e : decide (V.int i = V.int j) = decide (i = j) := by simp
  rw [e]
  exact q _ H (Ex.refl H) (.bl _)
theorem rd_isN : R2D (fun x y H Q => y = .non ∧ Q (.bl (decide (x = .non))) H) x .none (.bool (match x with | .none => true | _ => false)) := fun M H v u m a b Q q => by
  cases b
  refine ⟨rfl, ?_⟩
  cases a <;> exact q _ H (Ex.refl H) (.bl _)
theorem rd_notN : R2D (fun x y H Q => y = .non ∧ Q (.bl (!decide (x = .non))) H) x .none (.bool (match x with | .none => false | _ => true)) := fun M H v u m a b Q q => by
  cases b
  refine ⟨rfl, ?_⟩
  cases a <;> exact q _ H (Ex.refl H) (.bl _)
theorem rd_eqD (hx : SeqAt.shaped x = true) (hy : SeqAt.shaped y = true) : R2D (rEqD K) x y (.bool (PyData.eqv x y)) := fun M H v u m a b Q q => ⟨x, y, a.dp (SeqAt.canLay_of_shaped hx), b.dp (SeqAt.canLay_of_shaped hy), hx, hy, q _ H (Ex.refl H) (.bl _)⟩
theorem rd_neD (hx : SeqAt.shaped x = true) (hy : SeqAt.shaped y = true) : R2D (rNeD K) x y (.bool (!PyData.eqv x y)) := fun M H v u m a b Q q => ⟨x, y, a.dp (SeqAt.canLay_of_shaped hx), b.dp (SeqAt.canLay_of_shaped hy), hx, hy, q _ H (Ex.refl H) (.bl _)⟩
theorem rd_ixL {i : Int} (h : atI ds i = some z) : R2D (rIxL K) (.list ds) (.int i) z := fun M H v u m a b Q q => by
  cases b
  cases a with
  | lst n h1 r =>
    obtain ⟨j, h2⟩ : ∃ j, ixN ds.length i = some j ∧ ds[j]? = some z := by
      unfold atI at h
      cases e : ixN ds.length i with
      | none => rw [e] at h; cases h
      | some j => rw [e] at h; exact ⟨j, rfl, h⟩
    obtain ⟨v, hv, dv⟩ := r.get h2.2
    refine ⟨_, _, i, v, rfl, rfl, SqL.of h1, ?_, q v H (Ex.refl H) dv⟩
    unfold atI
    rw [r.length, h2.1]
    exact hv
theorem rd_ixT {i : Int} (h : atI ds i = some z) : R2D (rIxT K) (.tuple ds) (.int i) z := fun M H v u m a b Q q => by
  cases b
  cases a with
  | tup n h1 r =>
    obtain ⟨j, h2⟩ : ∃ j, ixN ds.length i = some j ∧ ds[j]? = some z := by
      unfold atI at h
      cases e : ixN ds.length i with
      | none => rw [e] at h; cases h
      | some j => rw [e] at h; exact ⟨j, rfl, h⟩
    obtain ⟨v, hv, dv⟩ := r.get h2.2
    refine ⟨_, _, i, v, rfl, rfl, SqT.of h1, ?_, q v H (Ex.refl H) dv⟩
    unfold atI
    rw [r.length, h2.1]
    exact hv
theorem rd_ixS {s : Str} {i : Int} {c : Nat} (hl : s.length ≤ 100000) (h : atI s.cps.toList i = some c) : R2D rIxS (.str s) (.int i) (.str ⟨#[c]⟩) := fun M H v u m a b Q q => by
  cases a
  cases b
  exact ⟨s, i, c, rfl, rfl, Evl.sz_of hl, h, q _ H (Ex.refl H) (.str _)⟩
/-- flat data -/
def flatD : PyData → Bool
  | .none => true
  | .bool _ => true
  | .int _ => true
  | .str _ => true
  | _ => false
theorem flat_of {M : Mt} {H : Hp} {v : V} (h : Dt M H v d) (f : flatD d = true) : flatV v = true := by
  cases h <;> first | rfl | cases f
theorem flats_of {M : Mt} {H : Hp} : ∀ {ds : List PyData} {vs : List V}, DtL M H vs ds → ds.all flatD = true → vs.all flatV = true
  | _, _, .nil, _ => rfl
  | _, _, .cons a r, f => by
    rw [List.all_cons, Bool.and_eq_true] at f
    rw [List.all_cons, flat_of a f.1, flats_of r f.2]
    rfl
def eqF : PyData → PyData → Bool
  | .none, .none => true
  | .bool a, .bool b => a == b
  | .bool a, .int b => (if a then 1 else 0) == b
  | .int a, .bool b => a == (if b then 1 else 0)
  | .int a, .int b => a == b
  | .str a, .str b => a == b
  | _, _ => false
theorem eqF_of {M : Mt} {H : Hp} {v u : V} (a : Dt M H v x) (b : Dt M H u y) (f : flatD x = true) (g : flatD y = true) : eqV v u = eqF x y := by
  cases a with
  | non => cases b with
    | lst _ _ _ => cases g
    | tup _ _ _ => cases g
    | dct _ _ _ => cases g
    | _ => rfl
  | bl _ => cases b with
    | lst _ _ _ => cases g
    | tup _ _ _ => cases g
    | dct _ _ _ => cases g
    | _ => rfl
  | int _ => cases b with
    | lst _ _ _ => cases g
    | tup _ _ _ => cases g
    | dct _ _ _ => cases g
    | _ => rfl
  | str _ => cases b with
    | lst _ _ _ => cases g
    | tup _ _ _ => cases g
    | dct _ _ _ => cases g
    | _ => rfl
  | lst _ _ _ => cases f
  | tup _ _ _ => cases f
  | dct _ _ _ => cases f
theorem inF_of {M : Mt} {H : Hp} {v : V} (a : Dt M H v x) (f : flatD x = true) : ∀ {ds : List PyData} {vs : List V}, DtL M H vs ds → ds.all flatD = true → inV v vs = ds.any fun y => eqF y x
  | _, _, .nil, _ => rfl
  | _, _, .cons b r, g => by
    rw [List.all_cons, Bool.and_eq_true] at g
    unfold inV
    rw [List.any_cons, List.any_cons, eqF_of b a g.1 f]
    congr 1
    exact inF_of a f r g.2
theorem rd_inL {b : Bool} (f : flatD x = true) (g : ds.all flatD = true) (e : (ds.any fun y => eqF y x) = b) : R2D (rIn K false) x (.list ds) (.bool b) := fun M H v u m a c Q q => by
  cases c with
  | lst n h r =>
    refine ⟨_, _, rfl, .inl (SqL.of h), flat_of a f, flats_of r g, ?_⟩
    rw [inF_of a f r g, e]
    exact q _ H (Ex.refl H) (.bl _)
theorem rd_inT {b : Bool} (f : flatD x = true) (g : ds.all flatD = true) (e : (ds.any fun y => eqF y x) = b) : R2D (rIn K false) x (.tuple ds) (.bool b) := fun M H v u m a c Q q => by
  cases c with
  | tup n h r =>
    refine ⟨_, _, rfl, .inr (SqT.of h), flat_of a f, flats_of r g, ?_⟩
    rw [inF_of a f r g, e]
    exact q _ H (Ex.refl H) (.bl _)
theorem rd_inD (hx : SeqAt.shaped x = true) (hy : SeqAt.shaped (.list ds) = true) : R2D (rInD K) x (.list ds) (.bool (ds.any fun z => PyData.eqv z x)) := fun M H v u m a b Q q => ⟨x, ds, a.dp (SeqAt.canLay_of_shaped hx), b.dp (SeqAt.canLay_of_shaped hy), hx, hy, q _ H (Ex.refl H) (.bl _)⟩
theorem rd_notInD (hx : SeqAt.shaped x = true) (hy : SeqAt.shaped (.list ds) = true) : R2D (rNotInD K) x (.list ds) (.bool (!ds.any fun z => PyData.eqv z x)) := fun M H v u m a b Q q => ⟨x, ds, a.dp (SeqAt.canLay_of_shaped hx), b.dp (SeqAt.canLay_of_shaped hy), hx, hy, q _ H (Ex.refl H) (.bl _)⟩
theorem rd_cat {es : List PyData} (hl : ds.length + es.length ≤ 100000) : R2D rCat (.list ds) (.list es) (.list (ds ++ es)) := fun M H v u m a b Q q => by
  cases a with
  | lst n h r =>
    cases b with
    | lst n2 h2 r2 =>
      refine ⟨_, _, _, _, rfl, rfl, h, h2, Evl.sz_of (by rw [r.length, r2.length]; exact hl), fun p hp => q _ _ (Ex.new hp) (.lst (m.new hp) upd_same ((r.app r2).ex (Ex.new hp)))⟩
theorem rd_catA {es : List PyData} (hl : ds.length + es.length ≤ 100000) : R2D (rCatA K) (.tuple ds) (.tuple es) (.tuple (ds ++ es)) := fun M H v u m a b Q q => by
  cases a with
  | tup n h r =>
    cases b with
    | tup n2 h2 r2 =>
      refine ⟨_, _, _, _, rfl, rfl, SqT.of h, SqT.of h2, Evl.sz_of (by rw [r.length, r2.length]; exact hl), fun z => ?_, fun z1 z => ?_, fun _ _ p hp => q _ _ (Ex.new hp) (.tup (m.new hp) upd_same ((r.app r2).ex (Ex.new hp)))⟩
      · subst z
        cases r
        exact q _ H (Ex.refl H) (.tup n2 h2 r2)
      · subst z
        cases r2
        rw [List.append_nil] at q
        exact q _ H (Ex.refl H) (.tup n h r)
theorem rd_addS {s t : Str} (hl : s.length + t.length ≤ 100000) : R2D (fun x y H Q => ∃ i j, x = .str i ∧ y = .str j ∧ i.length + j.length ≤ sizeLine ∧ Q (.str (i ++ j)) H) (.str s) (.str t) (.str (s ++ t)) := fun M H v u m a b Q q => by
  cases a
  cases b
  exact ⟨s, t, rfl, rfl, Evl.sz_of hl, q _ H (Ex.refl H) (.str _)⟩
theorem rd_inS {s t : Str} : R2D (fun x y H Q => ∃ i j, x = .str i ∧ y = .str j ∧ Q (.bl (!(Builtin.Str.occurrences j i 0 j.length 1).isEmpty)) H) (.str s) (.str t) (.bool (!(Builtin.Str.occurrences t s 0 t.length 1).isEmpty)) := fun M H v u m a b Q q => by
  cases a
  cases b
  exact ⟨s, t, rfl, rfl, q _ H (Ex.refl H) (.bl _)⟩
end
end Nd
set_option Elab.async false
set_option linter.all false
set_option maxRecDepth 100000
set_option maxHeartbeats 1000000
namespace Nd
open PySem PySem.Spec PyProof.Rows L2
open Evl (Ex Ex.refl Ex.trans Ex.new)
section
variable {K : PySem.W.Frag} {ρ : Ev} {ta tb te : TE} {tt tu : TT} {x y z d : PyData} {ds : List PyData}
/-! ### calls of built-ins -/
def tyN : PyData → String
  | .none => "NoneType"
  | .bool _ => "bool"
  | .int _ => "int"
  | .str _ => "str"
  | .list _ => "list"
  | .tuple _ => "tuple"
  | .dict _ => "dict"
theorem tyX_of {M : Mt} {H : Hp} {v : V} (h : Dt M H v d) : TyX K H v (.type (tyN d)) := by
  cases h with
  | non => exact .base .non
  | bl b => exact .base (.bl b)
  | int i => exact .base (.int i)
  | str s => exact .base (.str s)
  | lst n h r => exact .base (.lst h)
  | tup n h r => exact .base (.tup h)
  | dct n h r => exact .base (.dK h)
theorem dn_isi {n : String} {b : Bool} (h : Den ta ρ d) (hk : kitB (tyN d) n = some b) : Den (tCB (rIsi K) (tCons ta (tCons (tC (.ty n)) tNil))) ρ (.bool b) := fun M σ H m e Q q =>
  h M σ H m e _ fun v H1 e1 d1 => ⟨v, .ty n, _, _, b, rfl, .ty n, tyX_of d1, kit_ty hk, q _ H1 e1 (.bl b)⟩
/-- len of a list, of a tuple -/
def lenD : PyData → Option Nat
  | .list xs => some xs.length
  | .tuple xs => some xs.length
  | _ => none
theorem rc_len {n : Nat} (h : lenD d = some n) : RCD (fun xs H Q => ∃ p ys, xs = [.ref p] ∧ (SqL K H p ys ∨ SqT K H p ys) ∧ Q (.int ys.length) H) [d] (.int n) := fun M H vs m a Q q => by
  cases a with
  | cons a r =>
    cases r
    cases a with
    | lst n h2 r =>
      refine ⟨_, _, rfl, .inl (SqL.of h2), ?_⟩
      have e := Option.some.inj h
      rw [r.length, e]
      exact q _ H (Ex.refl H) (.int _)
    | tup n h2 r =>
      refine ⟨_, _, rfl, .inr (SqT.of h2), ?_⟩
      have e := Option.some.inj h
      rw [r.length, e]
      exact q _ H (Ex.refl H) (.int _)
    | _ => cases h
theorem rc_lenS {s : Str} (h : s.length ≤ 100000) : RCD (fun xs H Q => ∃ z, xs = [.str z] ∧ z.length ≤ sizeLine ∧ Q (.int z.length) H) [.str s] (.int s.length) := fun M H vs m a Q q => by
  cases a with
  | cons a r =>
    cases r
    cases a
    exact ⟨s, rfl, Evl.sz_of h, q _ H (Ex.refl H) (.int _)⟩
theorem rc_all {bs : List Bool} : RCD (rAll K) [.list (bs.map PyData.bool)] (.bool (bs.all id)) := fun M H vs m a Q q => by
  cases a with
  | cons a r =>
    cases r
    cases a with
    | lst n h2 r =>
      have e := r.bools
      subst e
      exact ⟨_, bs, rfl, SqL.of h2, q _ H (Ex.refl H) (.bl _)⟩
theorem rc_any {bs : List Bool} : RCD (rAny K) [.list (bs.map PyData.bool)] (.bool (bs.any id)) := fun M H vs m a Q q => by
  cases a with
  | cons a r =>
    cases r
    cases a with
    | lst n h2 r =>
      have e := r.bools
      subst e
      exact ⟨_, bs, rfl, SqL.of h2, q _ H (Ex.refl H) (.bl _)⟩
theorem rc_sum {ns : List Int} : RCD (rSum K) [.list (ns.map PyData.int)] (.int ns.sum) := fun M H vs m a Q q => by
  cases a with
  | cons a r =>
    cases r
    cases a with
    | lst n h2 r =>
      have e := r.ints
      subst e
      exact ⟨_, ns, rfl, SqL.of h2, q _ H (Ex.refl H) (.int _)⟩
theorem rc_intB {b : Bool} : RCD (fun xs H Q => (∃ i, xs = [.int i] ∧ Q (.int i) H) ∨ ∃ k, xs = [.bl k] ∧ Q (.int (if k then 1 else 0)) H) [.bool b] (.int (if b then 1 else 0)) := fun M H vs m a Q q => by
  cases a with
  | cons a r =>
    cases r
    cases a
    exact .inr ⟨b, rfl, q _ H (Ex.refl H) (.int _)⟩
theorem rc_intI {i : Int} : RCD (fun xs H Q => (∃ i, xs = [.int i] ∧ Q (.int i) H) ∨ ∃ k, xs = [.bl k] ∧ Q (.int (if k then 1 else 0)) H) [.int i] (.int i) := fun M H vs m a Q q => by
  cases a with
  | cons a r =>
    cases r
    cases a
    exact .inl ⟨i, rfl, q _ H (Ex.refl H) (.int _)⟩
/-- the ascending list -/
def srt (ns : List Int) : List Int := ns.mergeSort fun a b => decide (a ≤ b)
theorem srt_perm (ns : List Int) : (srt ns).Perm ns := List.mergeSort_perm ns _
theorem srt_up (ns : List Int) : (srt ns).Pairwise (· ≤ ·) := by
  have h := List.pairwise_mergeSort (le := fun a b : Int => decide (a ≤ b)) (by intro a b c h1 h2; simp only [decide_eq_true_eq] at *; omega) (by intro a b; simp only [Bool.or_eq_true, decide_eq_true_eq]; omega) ns
  exact h.imp fun h => of_decide_eq_true h
theorem srt_is {ns ns' : List Int} (p : ns'.Perm ns) (u : ns'.Pairwise (· ≤ ·)) : ns' = srt ns :=
  List.Perm.eq_of_pairwise (fun x y _ _ h1 h2 => Int.le_antisymm h1 h2) u (srt_up ns) (p.trans (srt_perm ns).symm)
theorem rc_sorted {ns : List Int} : RCD (rSortedI K) [.list (ns.map PyData.int)] (.list ((srt ns).map PyData.int)) := fun M H vs m a Q q => by
  cases a with
  | cons a r =>
    cases r
    cases a with
    | lst n h2 r =>
      have e := r.ints
      subst e
      refine ⟨_, ns, rfl, SqL.of h2, fun ns' p hp hu hn => ?_⟩
      have e := srt_is hp hu
      subst e
      exact q _ _ (Ex.new hn) (.lst (m.new hn) upd_same (.of_ints _))
/-- sorted of a list of pairs: some arrangement -/
theorem rc_sortedP0 : RCD (rSortedP K) [.list []] (.list []) := fun M H vs m a Q q => by
  cases a with
  | cons a r =>
    cases r
    cases a with
    | lst n h2 r =>
      cases r
      refine ⟨_, [], rfl, SqL.of h2, (fun x hx => by simp at hx), fun ys p hp hn => ?_⟩
      have e := List.Perm.eq_nil hp
      subst e
      exact q _ _ (Ex.new hn) (.lst (m.new hn) upd_same .nil)
/-- tuple of a list -/
theorem dn_tuple (h : Den ta ρ (.list ds)) : Den (tThen ta (kTup K)) ρ (.tuple ds) := fun M σ H m e Q q =>
  h M σ H m e _ fun v H1 e1 d1 => by
    cases d1 with
    | lst n h2 r => exact .inl ⟨_, _, rfl, SqL.of h2, fun p hp => q _ _ (e1.trans (Ex.new hp)) (.tup ((m.ex e1).new hp) upd_same (r.ex (Ex.new hp)))⟩
theorem dn_tupleT (h : Den ta ρ (.tuple ds)) : Den (tThen ta (kTup K)) ρ (.tuple ds) := fun M σ H m e Q q =>
  h M σ H m e _ fun v H1 e1 d1 => by
    cases d1 with
    | tup n h2 r => exact .inr ⟨_, _, rfl, SqT.of h2, q _ _ e1 (.tup n h2 r)⟩
theorem rgV_ints (a b : Int) : rgV a b = ((List.range (b - a).toNat).map fun i : Nat => a + (i : Int)).map V.int := by
  unfold rgV
  rw [List.map_map]
  rfl
/-- list of a range -/
theorem dn_listRg {a b : Int} (h1 : Den ta ρ (.int a)) (h2 : Den tb ρ (.int b)) (ok : 0 ≤ a ∧ a ≤ 100000 ∧ 0 ≤ b ∧ b ≤ 100000) :
    Den (tLstRg (tRg2 ta tb)) ρ (.list (((List.range (b - a).toNat).map fun i : Nat => a + (i : Int)).map PyData.int)) := fun M σ H m e Q q =>
  h1 M σ H m e _ fun v H1 e1 d1 => h2 M σ H1 (m.ex e1) (e.ex e1) _ fun u H2 e2 d2 => by
    cases d1
    cases d2
    refine ⟨a, b, rfl, rfl, RgOk.of_le ok.1 (by omega) (by omega) ok.2.2.1, fun p hp => ?_⟩
    rw [rgV_ints]
    exact q _ _ (e1.trans (e2.trans (Ex.new hp))) (.lst (((m.ex e1).ex e2).new hp) upd_same (.of_ints _))
/-- the list turned round -/
theorem dn_rev (h : Den ta ρ (.list ds)) : Den (tRevL K ta) ρ (.list ds.reverse) := fun M σ H m e Q q =>
  h M σ H m e _ fun v H1 e1 d1 => by
    cases d1 with
    | lst n h2 r => exact ⟨_, _, rfl, SqL.of h2, fun p hp => q _ _ (e1.trans (Ex.new hp)) (.lst ((m.ex e1).new hp) upd_same (r.rev.ex (Ex.new hp)))⟩
/-- ''.join -/
def rJn (K : PySem.W.Frag) : V → List V → Hp → VK → Prop := fun x xs H Q => ∃ a p, ∃ ys : List Str, x = .str a ∧ xs = [.ref p] ∧ (SqL K H p (ys.map V.str) ∨ SqT K H p (ys.map V.str)) ∧ (ys.map (·.length)).sum + ys.length * a.length ≤ 16777216 ∧ Q (.str (Txt.join a ys)) H
theorem dn_join {a : Str} {ys : List Str} (h1 : Den ta ρ (.str a)) (h2 : Den tb ρ (.list (ys.map PyData.str))) (hz : (ys.map (·.length)).sum + ys.length * a.length ≤ 16777216) :
    Den (tM1 (fun x xs H Q => ∃ a p, ∃ ys : List Str, x = .str a ∧ xs = [.ref p] ∧ (SqL K H p (ys.map V.str) ∨ SqT K H p (ys.map V.str)) ∧ (ys.map (·.length)).sum + ys.length * a.length ≤ 16777216 ∧ Q (.str (Txt.join a ys)) H) ta tb) ρ (.str (Txt.join a ys)) := fun M σ H m e Q q =>
  h1 M σ H m e _ fun v H1 e1 d1 => by
    cases d1
    refine ⟨⟨a, rfl⟩, h2 M σ H1 (m.ex e1) (e.ex e1) _ fun u H2 e2 d2 => ?_⟩
    cases d2 with
    | lst n h3 r =>
      have e := r.strs
      subst e
      exact ⟨a, _, ys, rfl, rfl, .inl (SqL.of h3), hz, q _ _ (e1.trans e2) (.str _)⟩
/-- a call of a def by its promise over data -/
def SpF (Pre : List PyData → PyData → Prop) : Sp := fun vs H Q _ => ∃ M ds d, Mok M H ∧ DtL M H vs ds ∧ Pre ds d ∧ ∀ v H2, Ex H H2 → Dt M H2 v d → Q v H2
theorem dn_call {Pre : List PyData → PyData → Prop} {E : XK} {t : TA} (h : DenA t ρ ds) (hp : Pre ds d) : Den (tCall (SpF Pre) [] E t) ρ d := fun M σ H m e Q q =>
  h M σ H m e _ fun vs H1 e1 d1 => ⟨M, ds, d, m.ex e1, by rw [List.append_nil]; exact d1, hp, fun v H2 e2 d2 => q v H2 (e1.trans e2) d2⟩
/-! ### what is walked -/
/-- M' b: M b, or new behind H; what was known at H stands at H1 -/
structure Grw (M : Mt) (H : Hp) (M' : Mt) (H1 : Hp) : Prop where
  nw : ∀ b, M' b → M b ∨ H b = none
  xt : Xt M' H H1
theorem Grw.refl {M : Mt} {H : Hp} : Grw M H M H := ⟨fun _ h => .inl h, .refl⟩
theorem Dt.grw {M M' : Mt} {H H1 : Hp} {v : V} (g : Grw M H M' H1) (h : Dt M H v d) : Dt M' H1 v d := h.mono fun b o n q => by
  have n' : ¬ M' b := fun z => by
    rcases g.nw b z with y | y
    · exact n y
    · rw [q] at y; cases y
  exact ⟨g.xt b o n' q, n'⟩
theorem DtL.grw {M M' : Mt} {H H1 : Hp} {v : List V} (g : Grw M H M' H1) (h : DtL M H v ds) : DtL M' H1 v ds := h.mono fun b o n q => by
  have n' : ¬ M' b := fun z => by
    rcases g.nw b z with y | y
    · exact n y
    · rw [q] at y; cases y
  exact ⟨g.xt b o n' q, n'⟩
theorem SlR.grw {M M' : Mt} {H H1 : Hp} {o : Option V} {s : Sl} (g : Grw M H M' H1) (h : SlR M H o s) : SlR M' H1 o s := by
  cases s with
  | d x =>
    obtain ⟨v, a, b⟩ := h
    exact ⟨v, a, b.grw g⟩
  | r v => exact h
theorem EnvR.grw {M M' : Mt} {H H1 : Hp} {σ : L2.St} (g : Grw M H M' H1) (h : EnvR M H σ ρ) : EnvR M' H1 σ ρ :=
  ⟨h.len, fun i s q => by
    obtain ⟨o, a, b⟩ := h.at_ i s q
    exact ⟨o, a, b.grw g⟩⟩
theorem Grw.ex {M : Mt} {H H1 : Hp} (e : Ex H H1) : Grw M H M H1 := ⟨fun _ h => .inl h, .of e⟩
def ItD (M : Mt) (J : It) (H : Hp) (ds : List PyData) : Prop := ∀ M' H1, Grw M H M' H1 → (∀ (i : Nat) d, ds[i]? = some d → J.go i H1 ∧ ∀ x H', J.yld i H1 x H' → Ex H1 H' ∧ Dt M' H' x d) ∧ J.stop ds.length H1
def DenI (wi : TI) (ρ : Ev) (ds : List PyData) : Prop := ∀ M σ H, Mok M H → EnvR M H σ ρ → ∀ R : It → Hp → Prop, (∀ J H1, Ex H H1 → ItD M J H1 ds → R J H1) → wi σ H R
theorem di_list (h : Den ta ρ (.list ds)) : DenI (iList K ta) ρ ds := fun M σ H m e R q =>
  h M σ H m e _ fun v H1 e1 d1 => by
    cases d1 with
    | lst n h2 r =>
      refine ⟨_, rfl, ⟨_, SqL.of h2⟩, q _ H1 e1 fun M' H3 g => ?_⟩
      cases (Dt.lst n h2 r).grw g with
      | lst n' h4 r =>
      refine ⟨fun i d hd => ?_, ⟨_, SqL.of h4, by rw [r.length]; exact Nat.le_refl _⟩⟩
      obtain ⟨v, hv, dv⟩ := r.get hd
      refine ⟨⟨_, v, SqL.of h4, hv⟩, fun x H' hx => ?_⟩
      obtain ⟨rfl, hx2⟩ := hx
      have e5 := hx2 _ (SqL.of h4)
      rw [hv] at e5
      cases e5
      exact ⟨Ex.refl _, dv⟩
theorem di_tup (h : Den ta ρ (.tuple ds)) : DenI (iTup K ta) ρ ds := fun M σ H m e R q =>
  h M σ H m e _ fun v H1 e1 d1 => by
    cases d1 with
    | tup n h2 r =>
      refine ⟨_, rfl, ⟨_, SqT.of h2⟩, q _ H1 e1 fun M' H3 g => ?_⟩
      cases (Dt.tup n h2 r).grw g with
      | tup n' h4 r =>
      refine ⟨fun i d hd => ?_, ⟨_, SqT.of h4, by rw [r.length]; exact Nat.le_refl _⟩⟩
      obtain ⟨v, hv, dv⟩ := r.get hd
      refine ⟨⟨_, v, SqT.of h4, hv⟩, fun x H' hx => ?_⟩
      obtain ⟨rfl, hx2⟩ := hx
      have e5 := hx2 _ (SqT.of h4)
      rw [hv] at e5
      cases e5
      exact ⟨Ex.refl _, dv⟩
/-- the signs of a text -/
def sgn (s : Str) : List PyData := s.cps.toList.map fun c => .str ⟨#[c]⟩
theorem di_str {s : Str} (h : Den ta ρ (.str s)) : DenI (iStr ta) ρ (sgn s) := fun M σ H m e R q =>
  h M σ H m e _ fun v H1 e1 d1 => by
    cases d1
    refine ⟨s, rfl, q _ H1 e1 fun M' H3 g => ⟨fun i d hd => ?_, by show s.cps.size ≤ (sgn s).length; simp [sgn]⟩⟩
    unfold sgn at hd
    rw [List.getElem?_map] at hd
    cases c : s.cps.toList[i]? with
    | none => rw [c] at hd; cases hd
    | some c' =>
      rw [c] at hd
      cases hd
      have hl : i < s.cps.size := by
        have := (List.getElem?_eq_some_iff.mp c).1
        simpa using this
      refine ⟨hl, fun x H' hx => ?_⟩
      obtain ⟨rfl, c2, hc2, rfl⟩ := hx
      have : c2 = c' := by
        have e1 : s.cps[i]? = some c' := by simpa using c
        rw [e1] at hc2
        exact (Option.some.inj hc2).symm
      subst this
      exact ⟨Ex.refl _, .str _⟩
/-- 0, 1, .. -/
def ups (n : Nat) : List PyData := (List.range n).map fun i : Nat => .int (i : Int)
theorem di_rng1 {t : TA} {n : Int} (h : DenA t ρ [.int n]) (h1 : 0 ≤ n) (h2 : n ≤ 100000) : DenI (iRng1 t) ρ (ups n.toNat) := fun M σ H m e R q =>
  h M σ H m e _ fun vs H1 e1 d1 => by
    cases d1 with
    | cons d1 r =>
      cases r
      cases d1
      refine ⟨n, rfl, by omega, by omega, q _ H1 e1 fun M' H3 g => ⟨fun i d hd => ?_, by show n.toNat ≤ (ups n.toNat).length; simp [ups]⟩⟩
      unfold ups at hd
      rw [List.getElem?_map] at hd
      cases c : (List.range n.toNat)[i]? with
      | none => rw [c] at hd; cases hd
      | some c' =>
        rw [c] at hd
        cases hd
        have hl := List.getElem?_eq_some_iff.mp c
        obtain ⟨h3, h4⟩ := hl
        have h5 : i < n.toNat := by simpa using h3
        refine ⟨h5, fun x H' hx => ?_⟩
        obtain ⟨rfl, rfl⟩ := hx
        have e4 : c' = i := by rw [← h4]; simp
        subst e4
        have e6 : (0 : Int) + (c' : Int) = (c' : Int) := by omega
        rw [e6]
        exact ⟨Ex.refl _, .int _⟩
/-! ### targets -/
/-- the slots outside js are as they were -/
def Out (js : List Nat) (σ σ' : L2.St) : Prop := σ'.length = σ.length ∧ ∀ i : Nat, i ∉ js → σ'[i]? = σ[i]?
def DenG (g : TG) (d : PyData) (ρ ρ' : Ev) (js : List Nat) : Prop := ∀ M σ H v, Mok M H → EnvR M H σ ρ → Dt M H v d → ∀ Q : L2.St → Hp → Prop, (∀ σ', Out js σ σ' → EnvR M H σ' ρ' → Q σ' H) → g v σ H Q
def DenGs (g : TGs) (ds : List PyData) (ρ ρ' : Ev) (js : List Nat) : Prop := ∀ M σ H vs, Mok M H → EnvR M H σ ρ → DtL M H vs ds → ∀ Q : L2.St → Hp → Prop, (∀ σ', Out js σ σ' → EnvR M H σ' ρ' → Q σ' H) → g vs σ H Q
theorem Out.refl {js : List Nat} {σ : L2.St} : Out js σ σ := ⟨rfl, fun _ _ => rfl⟩
theorem Out.trans {js ks : List Nat} {σ σ1 σ2 : L2.St} (a : Out js σ σ1) (b : Out ks σ1 σ2) : Out (js ++ ks) σ σ2 := ⟨b.1.trans a.1, fun i hi => by
  rw [List.mem_append] at hi
  rw [b.2 i fun z => hi (.inr z), a.2 i fun z => hi (.inl z)]⟩
theorem Out.mono {js ks : List Nat} {σ σ1 : L2.St} (a : Out js σ σ1) (h : ∀ i ∈ js, i ∈ ks) : Out ks σ σ1 := ⟨a.1, fun i hi => a.2 i fun z => hi (h i z)⟩
theorem Out.set {σ : L2.St} {j : Nat} {x : Option V} : Out [j] σ (σ.set j x) := ⟨List.length_set, fun i hi => List.getElem?_set_ne (by simp at hi; omega)⟩
theorem dg_name {j : Nat} : DenG (gName j) d ρ (ρ.set j (some (.d d))) [j] := fun M σ H v m e h Q q => q _ .set (e.set j ⟨v, rfl, h⟩)
theorem dgs_nil : DenGs gNil [] ρ ρ [] := fun M σ H vs m e h Q q => by
  cases h
  exact ⟨rfl, q σ .refl e⟩
theorem dgs_cons {g : TG} {u : TGs} {ρ1 ρ2 : Ev} {js ks : List Nat} (h1 : DenG g d ρ ρ1 js) (h2 : DenGs u ds ρ1 ρ2 ks) : DenGs (gCons g u) (d :: ds) ρ ρ2 (js ++ ks) := fun M σ H vs m e h Q q => by
  cases h with
  | cons a r => exact ⟨_, _, rfl, h1 M σ H _ m e a _ fun σ1 o1 e1 => h2 M σ1 H _ m e1 r _ fun σ2 o2 e2 => q σ2 (o1.trans o2) e2⟩
theorem dg_tup {n : Nat} {t : TGs} {ρ' : Ev} {js : List Nat} (h : DenGs t ds ρ ρ' js) (hn : ds.length = n) : DenG (gTup K n t) (.tuple ds) ρ ρ' js := fun M σ H v m e hv Q q => by
  cases hv with
  | tup nn h2 r => exact ⟨_, _, rfl, SqT.of h2, by rw [r.length, hn], h M σ H _ m e r Q q⟩
theorem dg_lst {n : Nat} {t : TGs} {ρ' : Ev} {js : List Nat} (h : DenGs t ds ρ ρ' js) (hn : ds.length = n) : DenG (gLst K n t) (.list ds) ρ ρ' js := fun M σ H v m e hv Q q => by
  cases hv with
  | lst nn h2 r => exact ⟨_, _, rfl, SqL.of h2, by rw [r.length, hn], h M σ H _ m e r Q q⟩
theorem DenG.js {g : TG} {ρ' : Ev} {js ks : List Nat} (h : DenG g d ρ ρ' js) (hs : ∀ i ∈ js, i ∈ ks) : DenG g d ρ ρ' ks := fun M σ H v m e hv Q q => h M σ H v m e hv Q fun σ' o e' => q σ' (o.mono hs) e'
/-! ### comprehensions -/
def wpE (ρ : Ev) : List Nat → Ev
  | [] => ρ
  | v :: vs => (wpE ρ vs).set v none
theorem wipe_get {σ : L2.St} : ∀ {vs : List Nat} {i : Nat}, i ∉ vs → (wipe σ vs)[i]? = σ[i]?
  | [], _, _ => rfl
  | v :: vs, i, h => by
    simp only [List.mem_cons, not_or] at h
    show ((wipe σ vs).set v none)[i]? = _
    rw [List.getElem?_set_ne (by omega), wipe_get h.2]
theorem wipe_in {σ : L2.St} : ∀ {vs : List Nat} {i : Nat}, i ∈ vs → i < σ.length → (wipe σ vs)[i]? = some none
  | v :: vs, i, h, hl => by
    show ((wipe σ vs).set v none)[i]? = _
    by_cases e : v = i
    · subst e
      rw [List.getElem?_set_self (by rw [wipe_length]; exact hl)]
    · rw [List.getElem?_set_ne e]
      rcases List.mem_cons.mp h with z | z
      · exact absurd z.symm e
      · exact wipe_in z hl
theorem wipe_eq {σ σ' : L2.St} {vs : List Nat} (o : Out vs σ σ') : wipe σ' vs = wipe σ vs := by
  refine List.ext_getElem? fun i => ?_
  by_cases h : i ∈ vs
  · by_cases hl : i < σ.length
    · rw [wipe_in h (by rw [o.1]; exact hl), wipe_in h hl]
    · rw [List.getElem?_eq_none (by rw [wipe_length, o.1]; omega), List.getElem?_eq_none (by rw [wipe_length]; omega)]
  · rw [wipe_get h, wipe_get h]
    exact o.2 i h
theorem Out.wipe {σ : L2.St} {vs : List Nat} : Out vs σ (wipe σ vs) := ⟨wipe_length σ vs, fun i h => wipe_get h⟩
theorem EnvR.forget {M : Mt} {H : Hp} {σ : L2.St} (h : EnvR M H σ ρ) {v : Nat} {x : Option V} : EnvR M H (σ.set v x) (ρ.set v none) := ⟨by rw [List.length_set, List.length_set]; exact h.len, fun i s q => by
  by_cases e : v = i
  · subst e
    rw [List.getElem?_set] at q
    by_cases hl : v < ρ.length
    · simp [hl] at q
    · simp [hl] at q
  · rw [List.getElem?_set_ne e] at q
    rw [List.getElem?_set_ne e]
    exact h.at_ i s q⟩
theorem EnvR.wipe {M : Mt} {H : Hp} {σ : L2.St} (h : EnvR M H σ ρ) : ∀ vs : List Nat, EnvR M H (wipe σ vs) (wpE ρ vs)
  | [] => h
  | _ :: vs => (EnvR.wipe h vs).forget
/-- the environment of a comprehension's block -/
theorem EnvR.wpE {M : Mt} {H : Hp} {σ : L2.St} (h : EnvR M H σ ρ) : ∀ vs : List Nat, EnvR M H (L2.wipe σ vs) (wpE ρ vs) := h.wipe
theorem take_succ_get {α : Type} {l : List α} {i : Nat} {a : α} (h : l[i]? = some a) : l.take (i + 1) = l.take i ++ [a] := by
  rw [List.take_add_one, h]
  rfl
/-- the new list stands beside M -/
theorem grw_new {M : Mt} {H H' : Hp} {D : Addr} (hD : H D = none) (e : Ex H H') : Grw M H (fun b => M b ∨ b = D) H' := ⟨fun b h => by
  rcases h with h | h
  · exact .inl h
  · rw [h]; exact .inr hD, .of e⟩
theorem mok_new {M : Mt} {H H' : Hp} {D : Addr} {o : HO} (m : Mok M H) (e : Ex H H') (h : H' D = some o) : Mok (fun b => M b ∨ b = D) H' := fun b hb z => by
  rcases hb with hb | hb
  · exact m.ex e b hb z
  · rw [hb, h] at z; cases z
theorem dn_lc {α : Type} {wi : TI} {g : TG} {vs : List Nat} (es : List α) (a : α → PyData) (p : α → Bool) (f : α → PyData) (G : α → Ev) (hi : DenI wi ρ (es.map a)) (hg : ∀ d ∈ es, DenG g (a d) (wpE ρ vs) (G d) vs)
    (ht : ∀ d ∈ es, DenT tt (G d) (p d)) (he : ∀ d ∈ es, p d = true → Den te (G d) (f d)) (hl : es.length ≤ 40000) : Den (tLc wi g tt te vs) ρ (.list ((es.filter p).map f)) := fun M σ H m e Q q => by
  refine hi M σ H m e _ fun J H1 e1 hJ => ?_
  intro D hD
  have m1 := m.ex e1
  have nD : ¬ M D := m1.new hD
  refine ⟨fun i m' H' => i + m' = es.length ∧ Ex H1 H' ∧ ∃ xs, H' D = some (.lst xs) ∧ DtL (fun b => M b ∨ b = D) H' xs (((es.take i).filter p).map f), ⟨es.length, by omega, Ex.new hD, [], upd_same, .nil⟩, ?_⟩
  rintro i m' H2 ⟨hm, ex2, xs, hxs, hd⟩
  have g2 := grw_new (M := M) hD ex2
  have mk := mok_new m1 ex2 hxs
  obtain ⟨go, st⟩ := hJ _ H2 g2
  by_cases hi' : i < es.length
  · obtain ⟨d, hdi⟩ : ∃ d, es[i]? = some d := ⟨es[i], List.getElem?_eq_getElem hi'⟩
    have dm : d ∈ es := List.mem_of_getElem? hdi
    obtain ⟨g1, yl⟩ := go i (a d) (by rw [List.getElem?_map, hdi]; rfl)
    refine .inr ⟨g1, fun H' => Ex H1 H' ∧ ∃ xs, H' D = some (.lst xs) ∧ DtL (fun b => M b ∨ b = D) H' xs (((es.take (i + 1)).filter p).map f), fun H' hN => ⟨m' - 1, by omega, by omega, hN⟩, fun x H3 hx => ?_⟩
    obtain ⟨ex3, dx⟩ := yl x H3 hx
    have e3 : EnvR (fun b => M b ∨ b = D) H3 (wipe σ vs) (wpE ρ vs) := (((e.ex e1).wpE vs).grw g2).ex ex3
    refine hg d dm _ _ H3 x (mk.ex ex3) e3 dx _ fun σ2 o2 e2 => ⟨(wipe_eq o2).trans (wipe_eq Out.wipe), ht d dm _ σ2 H3 (mk.ex ex3) e2 _ fun H4 e4 => ?_⟩
    have tk : (es.take (i + 1)) = es.take i ++ [d] := take_succ_get hdi
    cases c : p d with
    | true =>
      refine iteT (he d dm c _ σ2 H4 (mk.ex (ex3.trans e4)) (e2.ex e4) _ fun y H5 e5 d5 => ⟨xs, e5 _ _ (e4 _ _ (ex3 _ _ hxs)), ?_, ?_, _, upd_same, ?_⟩)
      · refine Evl.sz_lt ?_
        rw [hd.length, List.length_map]
        have := List.length_filter_le p (es.take i)
        have := List.length_take_le i es
        have : (es.take i).length ≤ es.length := by rw [List.length_take]; omega
        omega
      · exact Evl.Ex.mut (ex2.trans (ex3.trans (e4.trans e5))) hD
      · rw [tk, List.filter_append, List.map_append]
        refine DtL.app ?_ ?_
        · exact ((hd.ex (ex3.trans (e4.trans e5))).xt (Xt.upd .refl (.inr rfl)))
        · rw [List.filter_cons_of_pos c]
          exact .one (d5.xt (Xt.upd .refl (.inr rfl)))
    | false =>
      refine iteF ⟨ex2.trans (ex3.trans e4), xs, e4 _ _ (ex3 _ _ hxs), ?_⟩
      rw [tk, List.filter_append, List.filter_cons_of_neg (by rw [c]; exact Bool.false_ne_true), List.filter_nil, List.append_nil]
      exact hd.ex (ex3.trans e4)
  · have ei : i = es.length := by omega
    subst ei
    rw [List.take_length] at hd
    rw [List.length_map] at st
    exact .inl ⟨st, q _ H2 (e1.trans ex2) (.lst nD hxs (hd.less fun b h => .inl h))⟩
/-- no test -/
theorem dn_lcY {α : Type} {wi : TI} {g : TG} {vs : List Nat} (es : List α) (a : α → PyData) (f : α → PyData) (G : α → Ev) (hi : DenI wi ρ (es.map a)) (hg : ∀ d ∈ es, DenG g (a d) (wpE ρ vs) (G d) vs)
    (he : ∀ d ∈ es, Den te (G d) (f d)) (hl : es.length ≤ 40000) : Den (tLc wi g tYes te vs) ρ (.list (es.map f)) := by
  have h := dn_lc (tt := tYes) es a (fun _ => true) f G hi hg (fun _ _ => dt_yes) (fun d dm _ => he d dm) hl
  rw [List.filter_eq_self.mpr (fun _ _ => rfl)] at h
  exact h
end
end Nd
set_option Elab.async false
set_option linter.all false
set_option maxRecDepth 100000
set_option maxHeartbeats 1000000
namespace Nd
open PySem PySem.Spec PyProof.Rows L2
open Evl (Ex Ex.refl Ex.trans Ex.new)
section
variable {K : PySem.W.Frag} {ρ : Ev} {ta tb te : TE} {tt tu : TT} {x y z d : PyData} {ds : List PyData}
theorem tYes_of {σ : L2.St} {H : Hp} {Q : Bool → Hp → Prop} (h : Q true H) : tYes σ H Q := h
/-- [f d e for d in es for e in es1 d if p d e] -/
theorem dn_lc2 {α β : Type} {wi wi1 : TI} {g g1 : TG} {vs vs1 : List Nat} (es : List α) (a : α → PyData) (es1 : α → List β) (a1 : β → PyData) (p : α → β → Bool) (f : α → β → PyData) (G : α → Ev) (G1 : α → β → Ev) (hi : DenI wi ρ (es.map a))
    (hg : ∀ d ∈ es, DenG g (a d) (wpE ρ vs) (G d) vs) (hi1 : ∀ d ∈ es, DenI wi1 (G d) ((es1 d).map a1)) (hg1 : ∀ d ∈ es, ∀ e ∈ es1 d, DenG g1 (a1 e) (wpE (G d) vs1) (G1 d e) vs1) (ht : ∀ d ∈ es, ∀ e ∈ es1 d, DenT tt (G1 d e) (p d e)) (he : ∀ d ∈ es, ∀ e ∈ es1 d, p d e = true → Den te (G1 d e) (f d e))
    (hl : ∀ i ≤ es.length, ((es.take i).flatMap fun d => ((es1 d).filter (p d)).map (f d)).length ≤ 40000) (hl1 : ∀ d ∈ es, (es1 d).length ≤ 40000) : Den (tLc2 wi g tYes wi1 g1 tt te vs vs1) ρ (.list (es.flatMap fun d => ((es1 d).filter (p d)).map (f d))) := fun M σ H m e Q q => by
  refine hi M σ H m e _ fun J H1 e1 hJ => ?_
  intro D hD
  have m1 := m.ex e1
  have nD : ¬ M D := m1.new hD
  refine ⟨fun i m' H' => i + m' = es.length ∧ Ex H1 H' ∧ ∃ xs, H' D = some (.lst xs) ∧ DtL (fun b => M b ∨ b = D) H' xs ((es.take i).flatMap fun d => ((es1 d).filter (p d)).map (f d)), ⟨es.length, by omega, Ex.new hD, [], upd_same, .nil⟩, ?_⟩
  rintro i m' H2 ⟨hm, ex2, xs, hxs, hd⟩
  have g2 := grw_new (M := M) hD ex2
  have mk := mok_new m1 ex2 hxs
  obtain ⟨go, st⟩ := hJ _ H2 g2
  by_cases hi' : i < es.length
  · obtain ⟨d, hdi⟩ : ∃ d, es[i]? = some d := ⟨es[i], List.getElem?_eq_getElem hi'⟩
    have dm : d ∈ es := List.mem_of_getElem? hdi
    obtain ⟨gg, yl⟩ := go i (a d) (by rw [List.getElem?_map, hdi]; rfl)
    refine .inr ⟨gg, fun H' => Ex H1 H' ∧ ∃ xs, H' D = some (.lst xs) ∧ DtL (fun b => M b ∨ b = D) H' xs ((es.take (i + 1)).flatMap fun d => ((es1 d).filter (p d)).map (f d)), fun H' hN => ⟨m' - 1, by omega, by omega, hN⟩, fun x H3 hx => ?_⟩
    obtain ⟨ex3, dx⟩ := yl x H3 hx
    have e3 : EnvR (fun b => M b ∨ b = D) H3 (wipe σ vs) (wpE ρ vs) := (((e.ex e1).wpE vs).grw g2).ex ex3
    refine hg d dm _ _ H3 x (mk.ex ex3) e3 dx _ fun σ2 o2 e2 => ⟨(wipe_eq o2).trans (wipe_eq Out.wipe), tYes_of ?_⟩
    refine iteT ?_
    refine hi1 d dm _ σ2 H3 (mk.ex ex3) e2 _ fun J1 H4 e4 hJ1 => ?_
    have ex4 := ex2.trans (ex3.trans e4)
    have hxs4 := e4 _ _ (ex3 _ _ hxs)
    have tk : (es.take (i + 1)) = es.take i ++ [d] := take_succ_get hdi
    have hlen : ((es.take i).flatMap fun d => ((es1 d).filter (p d)).map (f d)).length + (((es1 d).filter (p d)).map (f d)).length ≤ 40000 := by
      have := hl (i + 1) (by omega)
      rw [tk, List.flatMap_append, List.length_append] at this
      simpa using this
    -- inner loop: the objects known at H4 but for D stay
    refine ⟨fun j k H' => j + k = (es1 d).length ∧ Ex H1 H' ∧ Xt (fun b => M b ∨ b = D) H4 H' ∧ ∃ xs, H' D = some (.lst xs) ∧ DtL (fun b => M b ∨ b = D) H' xs (((es.take i).flatMap fun d => ((es1 d).filter (p d)).map (f d)) ++ (((es1 d).take j).filter (p d)).map (f d)),
      ⟨(es1 d).length, by omega, ex4, .refl, xs, hxs4, by simpa using hd.ex (ex3.trans e4)⟩, ?_⟩
    rintro j k H5 ⟨hk, ex5, x5, ys, hys, hd5⟩
    have mk5 := mok_new m1 ex5 hys
    obtain ⟨go1, st1⟩ := hJ1 _ H5 ⟨fun b hb => .inl hb, x5⟩
    by_cases hj : j < (es1 d).length
    · obtain ⟨c, hc⟩ : ∃ c, (es1 d)[j]? = some c := ⟨(es1 d)[j], List.getElem?_eq_getElem hj⟩
      have cm : c ∈ es1 d := List.mem_of_getElem? hc
      obtain ⟨gc, yl1⟩ := go1 j (a1 c) (by rw [List.getElem?_map, hc]; rfl)
      refine .inr ⟨gc, fun H' => Ex H1 H' ∧ Xt (fun b => M b ∨ b = D) H4 H' ∧ ∃ xs, H' D = some (.lst xs) ∧ DtL (fun b => M b ∨ b = D) H' xs (((es.take i).flatMap fun d => ((es1 d).filter (p d)).map (f d)) ++ (((es1 d).take (j + 1)).filter (p d)).map (f d)), fun H' hN => ⟨k - 1, by omega, by omega, hN⟩, fun u H6 hu => ?_⟩
      obtain ⟨ex6, du⟩ := yl1 u H6 hu
      have e5 : EnvR (fun b => M b ∨ b = D) H6 (wipe σ2 vs1) (wpE (G d) vs1) := ((e2.ex e4).wpE vs1).xt (x5.ex ex6)
      refine hg1 d dm c cm _ _ H6 u (mk5.ex ex6) e5 du _ fun σ3 o3 e3' => ⟨(wipe_eq o3).trans (wipe_eq Out.wipe), ht d dm c cm _ σ3 H6 (mk5.ex ex6) e3' _ fun H7 e7 => ?_⟩
      have tk1 : ((es1 d).take (j + 1)) = (es1 d).take j ++ [c] := take_succ_get hc
      have hys7 := e7 _ _ (ex6 _ _ hys)
      cases hp : p d c with
      | true =>
        refine iteT (he d dm c cm hp _ σ3 H7 (mk5.ex (ex6.trans e7)) (e3'.ex e7) _ fun y H8 e8 d8 => ⟨ys, e8 _ _ hys7, ?_, ?_, ?_, _, upd_same, ?_⟩)
        · refine Evl.sz_lt ?_
          rw [hd5.length, List.length_append]
          have h1 : ((((es1 d).take j).filter (p d)).map (f d)).length ≤ (((es1 d).filter (p d)).map (f d)).length := by
            rw [List.length_map, List.length_map]
            exact ((List.take_sublist j (es1 d)).filter (p d)).length_le
          omega
        · exact Evl.Ex.mut (ex5.trans (ex6.trans (e7.trans e8))) hD
        · exact ((x5.ex ex6).ex (e7.trans e8)).upd (.inr rfl)
        · rw [tk1, List.filter_append, List.map_append, ← List.append_assoc]
          refine DtL.app ((hd5.ex (ex6.trans (e7.trans e8))).xt (Xt.upd .refl (.inr rfl))) ?_
          rw [List.filter_cons_of_pos hp]
          exact .one (d8.xt (Xt.upd .refl (.inr rfl)))
      | false =>
        refine iteF ⟨ex5.trans (ex6.trans e7), (x5.ex ex6).ex e7, ys, hys7, ?_⟩
        rw [tk1, List.filter_append, List.filter_cons_of_neg (by rw [hp]; exact Bool.false_ne_true), List.filter_nil, List.append_nil]
        exact hd5.ex (ex6.trans e7)
    · have ej : j = (es1 d).length := by omega
      subst ej
      rw [List.take_length] at hd5
      rw [List.length_map] at st1
      refine .inl ⟨st1, ex5, ys, hys, ?_⟩
      rw [tk, List.flatMap_append]
      simpa using hd5
  · have ei : i = es.length := by omega
    subst ei
    rw [List.take_length] at hd
    rw [List.length_map] at st
    exact .inl ⟨st, q _ H2 (e1.trans ex2) (.lst nD hxs (hd.less fun b h => .inl h))⟩
/-! ### sorted({k: True for k in es}): ints -/
def keyD (d : PyData) : Int := match d with
  | .int i => i
  | _ => 0
/-- the keys of the dict: the ints, each once, in the turn of their first -/
def once (ns : List Int) : List Int := ns.foldl (fun acc n => if n ∈ acc then acc else acc ++ [n]) []
theorem once_snoc (ns : List Int) (n : Int) : once (ns ++ [n]) = if n ∈ once ns then once ns else once ns ++ [n] := by
  unfold once
  rw [List.foldl_append]
  rfl
theorem rev_ind {P : List Int → Prop} (h0 : P []) (h1 : ∀ l n, P l → P (l ++ [n])) (l : List Int) : P l := by
  have h : ∀ m : List Int, P m.reverse := fun m => by
    induction m with
    | nil => exact h0
    | cons n r ih => rw [List.reverse_cons]; exact h1 _ _ ih
  have := h l.reverse
  rwa [List.reverse_reverse] at this
theorem once_spec (ns : List Int) : (once ns).Nodup ∧ ∀ a, a ∈ once ns ↔ a ∈ ns := by
  induction ns using rev_ind with
  | h0 => exact ⟨List.nodup_nil, fun a => Iff.rfl⟩
  | h1 l n ih =>
    rw [once_snoc]
    by_cases h : n ∈ once l
    · rw [if_pos h]
      refine ⟨ih.1, fun a => ?_⟩
      rw [ih.2 a, List.mem_append, List.mem_singleton]
      constructor
      · exact .inl
      · rintro (z | z)
        · exact z
        · rw [z]; exact (ih.2 n).mp h
    · rw [if_neg h]
      refine ⟨?_, fun a => ?_⟩
      · rw [List.nodup_append]
        refine ⟨ih.1, by simp, fun a ha b hb => ?_⟩
        rw [List.mem_singleton] at hb
        rw [hb]
        intro z
        rw [z] at ha
        exact h ha
      · rw [List.mem_append, List.mem_append, ih.2 a]
theorem once_len (ns : List Int) : (once ns).length ≤ ns.length := by
  induction ns using rev_ind with
  | h0 => exact Nat.le_refl _
  | h1 l n ih =>
    rw [once_snoc]
    split
    · simp; omega
    · simp; omega
theorem valV_mem {kvs : List (Key × V)} {k : Key} : (valV kvs k).isSome = true ↔ k ∈ kvs.map (·.1) := by
  rw [← valV_any, List.any_eq_true]
  simp
theorem put_keys {kvs : List (Key × V)} {ns : List Int} {n : Int} {v : V} (h : kvs.map (·.1) = ns.map Sum.inl) : (putK kvs (Sum.inl n) v).map (·.1) = (if n ∈ ns then ns else ns ++ [n]).map Sum.inl := by
  have hm : (kvs.any fun kv => decide (kv.1 = Sum.inl n)) = true ↔ n ∈ ns := by
    rw [valV_any, valV_mem, h]
    simp
  unfold putK
  by_cases c : n ∈ ns
  · rw [if_pos (hm.mpr c), if_pos c, ← h, List.map_map]
    refine List.map_congr_left fun kv _ => ?_
    show (if kv.1 = Sum.inl n then (kv.1, v) else kv).1 = kv.1
    split <;> rfl
  · rw [if_neg (fun z => c (hm.mp z)), if_neg c, List.map_append, List.map_append, h]
    rfl
def rSoDI : List V → Hp → VK → Prop := fun xs H Q => ∃ (a : Addr) (kvs : List (Key × V)) (ks : List Int), xs = [.ref a] ∧ Rd H a (.dK kvs) ∧ kvs.map (·.1) = ks.map Sum.inl ∧ ks.length < 64 ∧
    ∀ (ys : List Int) (p : Addr), ys.Perm ks → ys.Pairwise (· ≤ ·) → H p = none → Q (.ref p) (upd H p (.lst (ys.map V.int)))
/-- sorted({e: True for x in ns}), the element the item itself -/
theorem dn_sortedDc {wi : TI} {g : TG} {vs : List Nat} {ns : List Int} (G : PyData → Ev) (hi : DenI wi ρ (ns.map PyData.int)) (hg : ∀ d ∈ ns.map PyData.int, DenG g d (wpE ρ vs) (G d) vs)
    (hk : ∀ d ∈ ns.map PyData.int, Den te (G d) d) (hv : ∀ d ∈ ns.map PyData.int, Den tb (G d) (.bool true)) (hl : (once ns).length < 64) (hl2 : ns.length ≤ 40000) :
    Den (tCB (fun xs H Q => ∃ (a : Addr) (kvs : List (Key × V)) (ks : List Int), xs = [.ref a] ∧ Rd H a (.dK kvs) ∧ kvs.map (·.1) = ks.map Sum.inl ∧ ks.length < 64 ∧
      ∀ (ys : List Int) (p : Addr), ys.Perm ks → ys.Pairwise (· ≤ ·) → H p = none → Q (.ref p) (upd H p (.lst (ys.map V.int)))) (tCons (tDc wi g tYes te tb vs) tNil)) ρ (.list ((srt (once ns)).map PyData.int)) := fun M σ H m e Q q => by
  refine hi M σ H m e _ fun J H1 e1 hJ => ?_
  intro D hD
  have m1 := m.ex e1
  have nD : ¬ M D := m1.new hD
  refine ⟨fun i m' H' => i + m' = ns.length ∧ Ex H1 H' ∧ ∃ kvs, H' D = some (.dK kvs) ∧ kvs.map (·.1) = (once (ns.take i)).map Sum.inl, ⟨ns.length, by omega, Ex.new hD, [], upd_same, rfl⟩, ?_⟩
  rintro i m' H2 ⟨hm, ex2, kvs, hxs, hd⟩
  have g2 := grw_new (M := M) hD ex2
  have mk := mok_new m1 ex2 hxs
  obtain ⟨go, st⟩ := hJ _ H2 g2
  by_cases hi' : i < ns.length
  · have hni : ns[i]? = some ns[i] := List.getElem?_eq_getElem hi'
    have hdi : (ns.map PyData.int)[i]? = some (.int ns[i]) := by rw [List.getElem?_map, hni]; rfl
    have dm := List.mem_of_getElem? hdi
    obtain ⟨g1, yl⟩ := go i _ hdi
    refine .inr ⟨g1, fun H' => Ex H1 H' ∧ ∃ kvs, H' D = some (.dK kvs) ∧ kvs.map (·.1) = (once (ns.take (i + 1))).map Sum.inl, fun H' hN => ⟨m' - 1, by omega, by omega, hN⟩, fun x H3 hx => ?_⟩
    obtain ⟨ex3, dx⟩ := yl x H3 hx
    have e3 : EnvR (fun b => M b ∨ b = D) H3 (wipe σ vs) (wpE ρ vs) := (((e.ex e1).wpE vs).grw g2).ex ex3
    refine hg _ dm _ _ H3 x (mk.ex ex3) e3 dx _ fun σ2 o2 e2 => ⟨(wipe_eq o2).trans (wipe_eq Out.wipe), tYes_of ?_⟩
    refine iteT ?_
    refine hk _ dm _ σ2 H3 (mk.ex ex3) e2 _ fun y H4 e4 dy => hv _ dm _ σ2 H4 (mk.ex (ex3.trans e4)) (e2.ex e4) _ fun z H5 e5 dz => ?_
    cases dy
    refine ⟨kvs, Sum.inl ns[i], rfl, e5 _ _ (e4 _ _ (ex3 _ _ hxs)), ?_, Evl.Ex.mut (ex2.trans (ex3.trans (e4.trans e5))) hD, _, upd_same, ?_⟩
    · have h1 : kvs.length = (once (ns.take i)).length := by
        have := congrArg List.length hd
        simpa using this
      refine Evl.sz_lt ?_
      have h2 := once_len (ns.take i)
      have : (ns.take i).length ≤ ns.length := by rw [List.length_take]; omega
      omega
    · rw [take_succ_get hni, once_snoc]
      exact put_keys hd
  · have ei : i = ns.length := by omega
    subst ei
    rw [List.take_length] at hd
    refine .inl ⟨by rw [List.length_map] at st; exact st, D, kvs, once ns, rfl, .of hxs, hd, hl, fun ys p hp hu hn => ?_⟩
    have e := srt_is hp hu
    subst e
    exact q _ _ (e1.trans (ex2.trans (Ex.new hn))) (.lst ((m1.ex ex2).new hn) upd_same (.of_ints _))
/-! ### slices of texts -/
theorem dn_slS {s : Str} {i : Int} (h : Den ta ρ (.str s)) (hi : Den tb ρ (.int i)) (hl : s.length ≤ 100000) : Den (tSl rSlS ta tNoPart (tPart tb)) ρ (.str (cutS s none (some i))) := fun M σ H m e Q q =>
  h M σ H m e _ fun v H1 e1 d1 => hi M σ H1 (m.ex e1) (e.ex e1) _ fun u H2 e2 d2 => by
    cases d1
    cases d2
    exact ⟨i, rfl, s, rfl, Evl.sz_of hl, q _ _ (e1.trans e2) (.str _)⟩
/-- a chain a op b op' c -/
theorem dn_chain {r r' : R2} {b : Bool} (ha : Den ta ρ x) (hb : Den tb ρ y) (hr : R2D r x y (.bool b)) (hc : b = true → Den te ρ z ∧ R2D r' y z (.bool b)) (hf : b = false → False) : Den (tChain r r' ta tb te) ρ (.bool b) := fun M σ H m e Q q =>
  ha M σ H m e _ fun v H1 e1 d1 => hb M σ H1 (m.ex e1) (e.ex e1) _ fun u H2 e2 d2 => hr M H2 v u (m.ex (e1.trans e2)) (d1.ex e2) d2 _ fun w H3 e3 d3 => by
    cases d3
    refine ⟨b, rfl, ?_⟩
    cases b with
    | true =>
      obtain ⟨h1, h2⟩ := hc rfl
      exact iteT (h1 M σ H3 (m.ex (e1.trans (e2.trans e3))) (e.ex (e1.trans (e2.trans e3))) _ fun w' H4 e4 d4 => h2 M H4 u w' (m.ex (e1.trans (e2.trans (e3.trans e4)))) (d2.ex (e3.trans e4)) d4 _ fun y H5 e5 d5 => q _ H5 (e1.trans (e2.trans (e3.trans (e4.trans e5)))) d5)
    | false => exact (hf rfl).elim
/-- a constant of the written part: x in SINGLES -/
theorem dn_inK {a : Addr} {vs : List V} {es : List PyData} {b neg : Bool} (ha : Den ta ρ x) (hs : ∀ H, SqT K H a vs) (he : ∀ M H, DtL M H vs es) (f : flatD x = true) (g : es.all flatD = true) (hb : (if neg then !(es.any fun y => eqF y x) else es.any fun y => eqF y x) = b) : Den (tOp (rIn K neg) ta (tC (.ref a))) ρ (.bool b) := fun M σ H m e Q q =>
  ha M σ H m e _ fun v H1 e1 d1 => by
    refine ⟨a, vs, rfl, .inr (hs H1), flat_of d1 f, flats_of (he M H1) g, ?_⟩
    rw [inF_of d1 f (he M H1) g, hb]
    exact q _ H1 e1 (.bl _)
end
/-! ### statements -/
inductive Oc where
  | nx (ρ : Ev)
  | rt (d : PyData)
def OcOk (M : Mt) (H : Hp) (Dn : Ends) : Oc → Prop
  | .nx ρ => ∀ σ H2, Ex H H2 → EnvR M H2 σ ρ → Dn.nx σ H2
  | .rt d => ∀ v H2, Ex H H2 → Dt M H2 v d → Dn.rt v H2
def DenS (t : TS) (ρ : Ev) (o : Oc) : Prop := ∀ M σ H, Mok M H → EnvR M H σ ρ → ∀ Dn : Ends, OcOk M H Dn o → t Dn σ H
theorem OcOk.ex {M : Mt} {H H1 : Hp} {Dn : Ends} {o : Oc} (e : Ex H H1) (h : OcOk M H Dn o) : OcOk M H1 Dn o := by
  cases o with
  | nx ρ => exact fun σ H2 e2 r => h σ H2 (e.trans e2) r
  | rt d => exact fun v H2 e2 r => h v H2 (e.trans e2) r
section
variable {K : PySem.W.Frag} {ρ ρ1 ρ2 : Ev} {te : TE} {tt : TT} {t u : TS} {d : PyData} {ds : List PyData} {o : Oc}
theorem ds_next : DenS tNext ρ (.nx ρ) := fun M σ H m e Dn q => q σ H (Ex.refl H) e
theorem ds_seq (h1 : DenS t ρ (.nx ρ1)) (h2 : DenS u ρ1 o) : DenS (tSeq t u) ρ o := fun M σ H m e Dn q =>
  h1 M σ H m e _ fun σ1 H1 e1 r1 => h2 M σ1 H1 (m.ex e1) r1 Dn (q.ex e1)
theorem ds_seqR (h1 : DenS t ρ (.rt d)) : DenS (tSeq t u) ρ (.rt d) := fun M σ H m e Dn q => h1 M σ H m e _ q
theorem ds_if {a b : TS} {c : Bool} (h : DenT tt ρ c) (h1 : c = true → DenS a ρ o) (h2 : c = false → DenS b ρ o) : DenS (tIfS tt a b) ρ o := fun M σ H m e Dn q =>
  h M σ H m e _ fun H1 e1 => by
    cases c with
    | true => exact iteT (h1 rfl M σ H1 (m.ex e1) (e.ex e1) Dn (q.ex e1))
    | false => exact iteF (h2 rfl M σ H1 (m.ex e1) (e.ex e1) Dn (q.ex e1))
theorem ds_ifT {a b : TS} (h : DenT tt ρ true) (h1 : DenS a ρ o) : DenS (tIfS tt a b) ρ o := ds_if h (fun _ => h1) (fun z => nomatch z)
theorem ds_ifF {a b : TS} (h : DenT tt ρ false) (h1 : DenS b ρ o) : DenS (tIfS tt a b) ρ o := ds_if h (fun z => nomatch z) (fun _ => h1)
theorem ds_ret (h : Den te ρ d) : DenS (tRet te) ρ (.rt d) := fun M σ H m e Dn q => h M σ H m e _ fun v H1 e1 d1 => q v H1 e1 d1
theorem ds_set {j : Nat} (h : Den te ρ d) : DenS (tAsg te (gName j)) ρ (.nx (ρ.set j (some (.d d)))) := fun M σ H m e Dn q =>
  h M σ H m e _ fun v H1 e1 d1 => q _ H1 e1 ((e.ex e1).set j ⟨v, rfl, d1⟩)
theorem ds_asg {g : TG} {js : List Nat} (h : Den te ρ d) (hg : DenG g d ρ ρ1 js) : DenS (tAsg te g) ρ (.nx ρ1) := fun M σ H m e Dn q =>
  h M σ H m e _ fun v H1 e1 d1 => hg M σ H1 v (m.ex e1) (e.ex e1) d1 _ fun σ' _ e' => q σ' H1 e1 e'
theorem ds_le (h : DenS t ρ (.nx ρ1)) (l : LeE ρ1 ρ2) : DenS t ρ (.nx ρ2) := fun M σ H m e Dn q => h M σ H m e Dn fun σ' H2 e2 r => q σ' H2 e2 (r.le l)
theorem ds_par3 {i j l : Nat} {t : TA} {a b c : PyData} (h : DenA t ρ [a, b, c]) : DenS (tPar3 i j l t) ρ (.nx (((ρ.set i (some (.d a))).set j (some (.d b))).set l (some (.d c)))) := fun M σ H m e Dn q =>
  h M σ H m e _ fun vs H1 e1 d1 => by
    cases d1 with
    | cons a1 r => cases r with
      | cons a2 r => cases r with
        | cons a3 r =>
          cases r
          exact ⟨_, _, _, rfl, q _ H1 e1 ((((e.ex e1).set (s := .d a) i ⟨_, rfl, a1⟩).set (s := .d b) j ⟨_, rfl, a2⟩).set (s := .d c) l ⟨_, rfl, a3⟩)⟩
/-- a for without break, over what stands still -/
theorem ds_for {wi : TI} {g : TG} {es : List PyData} {js : List Nat} (I : Nat → Ev) (hi : DenI wi (I 0) es) (hb : ∀ (i : Nat) d, es[i]? = some d → ∃ ρ1 ρ2, DenG g d (I i) ρ1 js ∧ DenS t ρ1 (.nx ρ2) ∧ LeE ρ2 (I (i + 1))) : DenS (tFor wi g t) (I 0) (.nx (I es.length)) := fun M σ H m e Dn q => by
  refine hi M σ H m e _ fun J H1 e1 hJ => ?_
  refine ⟨fun i m' σ' H' => i + m' = es.length ∧ Ex H1 H' ∧ EnvR M H' σ' (I i), ⟨es.length, by omega, Ex.refl _, e.ex e1⟩, ?_⟩
  rintro i m' σ' H2 ⟨hm, e2, r2⟩
  obtain ⟨go, st⟩ := hJ M H2 (.ex e2)
  have mk := (m.ex e1).ex e2
  by_cases hi' : i < es.length
  · obtain ⟨d, hdi⟩ : ∃ d, es[i]? = some d := ⟨es[i], List.getElem?_eq_getElem hi'⟩
    obtain ⟨gg, yl⟩ := go i d hdi
    obtain ⟨ρ1, ρ2, hg, hs, hle⟩ := hb i d hdi
    refine .inr ⟨gg, fun σ' H' => Ex H1 H' ∧ EnvR M H' σ' (I (i + 1)), fun σ' H' hN => ⟨m' - 1, by omega, by omega, hN⟩, fun x H3 hx => ?_⟩
    obtain ⟨ex3, dx⟩ := yl x H3 hx
    refine hg M σ' H3 x (mk.ex ex3) (r2.ex ex3) dx _ fun σ3 _ e3 => ?_
    exact hs M σ3 H3 (mk.ex ex3) e3 _ fun σ4 H4 e4 r4 => ⟨e2.trans (ex3.trans e4), r4.le hle⟩
  · have ei : i = es.length := by omega
    subst ei
    exact .inl ⟨st, q σ' H2 (e1.trans e2) r2⟩
theorem ds_forX {wi : TI} {g : TG} {es : List PyData} {js : List Nat} (I : Nat → Ev) (hi : DenI wi (I 0) es) (hb : ∀ (i : Nat) d, es[i]? = some d → ∃ ρ1, DenG g d (I i) ρ1 js ∧ DenS t ρ1 (.nx (I (i + 1)))) : DenS (tFor wi g t) (I 0) (.nx (I es.length)) :=
  ds_for I hi fun i d h => by
    obtain ⟨ρ1, h1, h2⟩ := hb i d h
    exact ⟨ρ1, _, h1, h2, LeE.refl _⟩
end
/-! ### a def's promise, shown -/
def st0 (N : List Str) (ds : List PyData) : Ev := ds.map (fun d => some (.d d)) ++ List.replicate (N.length - ds.length) none
theorem env0 {M : Mt} {H : Hp} {vs : List V} {ds : List PyData} {N : List Str} (h : DtL M H vs ds) : EnvR M H (L2.start N vs) (st0 N ds) := by
  refine ⟨by simp [L2.start, st0, h.length], fun i s q => ?_⟩
  unfold st0 at q
  unfold L2.start
  by_cases hl : i < ds.length
  · rw [List.getElem?_append_left (by rw [List.length_map]; exact hl), List.getElem?_map] at q
    rw [List.getElem?_append_left (by rw [List.length_map, h.length]; exact hl), List.getElem?_map]
    cases c : ds[i]? with
    | none => rw [c] at q; cases q
    | some d =>
      rw [c] at q
      cases q
      obtain ⟨v, hv, dv⟩ := h.get c
      rw [hv]
      exact ⟨some v, rfl, v, rfl, dv⟩
  · rw [List.getElem?_append_right (by rw [List.length_map]; omega)] at q
    have := List.mem_of_getElem? q
    have := List.eq_of_mem_replicate this
    cases this
/-- a return -/
theorem run_F {Pre : List PyData → PyData → Prop} {t : TS} {N : List Str} {vs : List V} {H : Hp} {Q : VK} {E : XK} (h : SpF Pre vs H Q E) (hd : ∀ ds d, Pre ds d → DenS t (st0 N ds) (.rt d)) : t { nx := fun _ H' => Q .non H', rt := Q } (L2.start N vs) H := by
  obtain ⟨M, ds, d, m, r, p, q⟩ := h
  exact hd ds d p M _ H m (env0 r) _ fun v H2 e2 d2 => q v H2 e2 d2
/-- without a return -/
theorem run_N {Pre : List PyData → PyData → Prop} {t : TS} {N : List Str} {vs : List V} {H : Hp} {Q : VK} {E : XK} (h : SpF Pre vs H Q E) (hd : ∀ ds d, Pre ds d → d = .none ∧ ∃ ρ, DenS t (st0 N ds) (.nx ρ)) : t { nx := fun _ H' => Q .non H', rt := Q } (L2.start N vs) H := by
  obtain ⟨M, ds, d, m, r, p, q⟩ := h
  obtain ⟨rfl, ρ, hs⟩ := hd ds d p
  exact hs M _ H m (env0 r) _ fun σ H2 e2 _ => q .non H2 e2 .non
theorem len_F {Pre : List PyData → PyData → Prop} {n : Nat} (h : ∀ ds d, Pre ds d → ds.length = n) : ∀ vs H Q E, SpF Pre vs H Q E → vs.length = n := by
  rintro vs H Q E ⟨M, ds, d, m, r, p, q⟩
  rw [r.length, h ds d p]
end Nd
set_option Elab.async false
set_option linter.all false
set_option maxRecDepth 100000
set_option maxHeartbeats 1000000
/-! The text: its defs by places, what the top has left of it. -/
namespace Nd
open PySem PySem.Spec PyProof.Rows L2
open Evl (Ex Ex.refl Ex.trans Ex.new)
def topS (i : Nat) : Stmt := PySem.Challenge.pw_nodoubt_k22_whole_read_words.main.body.getD i (.Pass ⟨0, 0, 0, 0⟩)
abbrev FnP (K : PySem.W.Frag) (x : Str) (st : Stmt) (f : Addr) (fd : FuncData) : Prop := FunD K x x (defArgs st) (defBody st) (defScope st) [] [] f fd
/-- a def of the text, under its name -/
structure Df (K : PySem.W.Frag) (mg : Str → Option Value) (x : Str) (st : Stmt) : Prop where
  ex : ∃ f fd, FnP K x st f fd ∧ mg x = some (.ref f)
/-- a def that may be called by its name -/
structure Cl (P : Program) (w : World) (K : PySem.W.Frag) (mg : Str → Option Value) (base : Heap) (k : Nat) (x : Str) (sp : Sp) : Prop where
  ex : ∃ (f : Addr) (fd : FuncData) (ps : List Str), FnOk P w K mg base L2.CX0 k f fd ps sp ∧ mg x = some (.ref f) ∧ PySem.W.keepIn K (.ref f) = true ∧ Binds K fd ps []
section
variable {P : Program} {w : World} {K : PySem.W.Frag} {mg : Str → Option Value} {base : Heap}
theorem mk_cl {x : Str} {st : Stmt} {N ps : List Str} {k : Nat} {sp : Sp} (D : Df K mg x st) (S : FnScope N ps (defScope st))
    (hb : ∀ (kV doc pm : Value) (an : Option Addr) (cdv ct : Value) (us : List Value), us.length = ps.length → bindArgs (PySem.W.fnOf x x (defArgs st) (defBody st) (defScope st) .none kV doc pm an cdv ct) ⟨us, []⟩ = pure (ps.zip us))
    (len : ∀ vs H Q E, sp vs H Q E → vs.length = ps.length)
    (hbody : ∀ (f : Addr) (cdv : Value) (A : Around) (outer : List Env) (s : Shared) (H : Hp) (vs : List V) (Q : VK) (E : XK), Room k (A.deeper (envOfC x (defScope st) s.heap.objs.size f cdv)) → sp vs H Q E →
      ∃ t, PSs (cxOf L2.CX0 P w K mg base N x (defScope st) f cdv A outer s H E).nox (defBody st) t ∧ t { nx := fun _ H' => Q .non H', rt := Q } (L2.start N vs) H) : Cl P w K mg base (k + 1) x sp := by
  obtain ⟨f, fd, F, m⟩ := D.ex
  refine ⟨f, fd, ps, F.ok S len (fun cdv A outer s H vs Q E hr h => ?_), m, F.kp, F.bindsN hb⟩
  obtain ⟨t, h1, h2⟩ := hbody f cdv A outer s H vs Q E hr h
  exact ⟨t, h1.nox, h2⟩
theorem Cl.imp {x : Str} {k : Nat} {sp sp' : Sp} (c : Cl P w K mg base k x sp) (h : ∀ vs H Q E, sp' vs H Q E → sp vs H Q E) : Cl P w K mg base k x sp' := by
  obtain ⟨f, fd, ps, F, m, kp, b⟩ := c.ex
  exact ⟨f, fd, ps, F.imp h, m, kp, b⟩
theorem Cl.mono {x : Str} {k j : Nat} {sp : Sp} (c : Cl P w K mg base k x sp) (h : k ≤ j) : Cl P w K mg base j x sp := by
  obtain ⟨f, fd, ps, F, m, kp, b⟩ := c.ex
  exact ⟨f, fd, ps, F.mono h, m, kp, b⟩
end
section
variable {X : Cx} {k j : Nat} {x : Str} {sp : Sp} {p pos : Pos} {e : Expr} {es : List Expr} {t : TA}
theorem pe_cl (c : Cl X.prog X.w X.K X.mg X.base k x sp) (hr : Room j X.A) (hk : k ≤ j) (hg : Gl X x) (ha : PA X (e :: es) t)
    (hdb : (x == ("__debug__" : Str)) = false := by decide) (he : starEach (e :: es) X.env = (false, eval e X.env) :: starEach es X.env := by rfl) (hpl : (backTo pos (starEach es X.env)).any (·.1) = false := by rfl) :
    PE X (.Call (.Name x p) (e :: es) [] pos) (tCall sp [] E0 t) := by
  obtain ⟨f, fd, ps, F, m, kp, b⟩ := c.ex
  exact pe_call F (hr.mono hk) hg m kp b .nil pass0 ha hdb he hpl
/-- a module's constant -/
theorem pe_gk {v : V} (hg : Gl X x) (h : ∃ u, X.mg x = some u ∧ RelV v u) (hd : (x == ("__debug__" : Str)) = false := by decide) : PE X (.Name x pos) (tC v) := by
  obtain ⟨u, m, r⟩ := h
  exact pe_glob hg m r hd
end
/-! ### the rules with the written part told (within a comprehension's block the context is another, its K the same) -/
section
variable (K : PySem.W.Frag) {X : Cx}
theorem k_ixT (h : X.K = K := by rfl) : IxR X (rIxT K) := h ▸ ix_tup
theorem k_ixL (h : X.K = K := by rfl) : IxR X (rIxL K) := h ▸ ix_list
theorem k_in (h : X.K = K := by rfl) : OpR X (compareOp .In) (rIn K false) := h ▸ op_in_seq
theorem k_notIn (h : X.K = K := by rfl) : OpR X (compareOp .NotIn) (rIn K true) := h ▸ op_notIn_seq
theorem k_catA (h : X.K = K := by rfl) : OpR X (binaryOp .Add) (rCatA K) := h ▸ op_catA
theorem k_eqD (hu : X.A.units + 64 < cLine) (h : X.K = K := by rfl) : OpR X (compareOp .Eq) (rEqD K) := h ▸ op_eqD hu
theorem k_neD (hu : X.A.units + 64 < cLine) (h : X.K = K := by rfl) : OpR X (compareOp .NotEq) (rNeD K) := h ▸ op_neD hu
theorem k_inD (hu : X.A.units + 65 < cLine) (h : X.K = K := by rfl) : OpR X (compareOp .In) (rInD K) := h ▸ op_inD hu
theorem k_notInD (hu : X.A.units + 65 < cLine) (h : X.K = K := by rfl) : OpR X (compareOp .NotIn) (rNotInD K) := h ▸ op_notInD hu
theorem k_isi (h : X.K = K := by rfl) : CallR X (.builtin "isinstance") (rIsi K) := h ▸ call_isi
def rLenQ (K : PySem.W.Frag) : List V → Hp → VK → Prop := fun xs H Q => ∃ p ys, xs = [.ref p] ∧ (SqL K H p ys ∨ SqT K H p ys) ∧ Q (.int ys.length) H
theorem k_len (h : X.K = K := by rfl) : CallR X (.builtin "len") (rLenQ K) := h ▸ call_len_seq
theorem k_all (hc : X.calm = true) (h : X.K = K := by rfl) : CallR X (.builtin "all") (rAll K) := h ▸ cr_all hc
theorem k_any (hc : X.calm = true) (h : X.K = K := by rfl) : CallR X (.builtin "any") (rAny K) := h ▸ cr_any hc
theorem k_sum (hc : X.calm = true) (h : X.K = K := by rfl) : CallR X (.builtin "sum") (rSum K) := h ▸ cr_sum hc
theorem k_sortedI (h : X.K = K := by rfl) : CallR X (.builtin "sorted") (rSortedI K) := h ▸ cr_sortedI
theorem k_sortedP (h : X.K = K := by rfl) : CallR X (.builtin "sorted") (rSortedP K) := h ▸ cr_sortedP
def rListQ (K : PySem.W.Frag) : List V → Hp → VK → Prop := fun xs H Q => ∃ p ys, xs = [.ref p] ∧ (SqL K H p ys ∨ SqT K H p ys) ∧ ∀ l, H l = none → Q (.ref l) (upd H l (.lst ys))
theorem k_listOf (h : X.K = K := by rfl) : CallR X (.type "list") (rListQ K) := h ▸ call_list_of
theorem k_piL {tg l : Expr} {tl : TE} (hl : PE X l tl) (h : X.K = K := by rfl) : PI X tg l (iList K tl) := h ▸ pi_list hl
theorem k_piT {tg l : Expr} {tl : TE} (hl : PE X l tl) (h : X.K = K := by rfl) : PI X tg l (iTup K tl) := h ▸ pi_tup hl
theorem k_pgT {es : List Expr} {k : Nat} {t : TGs} {n : Nat} {pos : Pos} (hc : X.calm = true) (hh : PGs X es t) (h : X.K = K := by rfl)
    (hn : (assignEach es X.env).length = n := by rfl) (hst : (assignEach es X.env).findIdx? (·.1) = none := by rfl) : PG X (.Tuple es k pos) (gTup K n t) := h ▸ pg_tup hc hh hn hst
theorem k_pgL {es : List Expr} {k : Nat} {t : TGs} {n : Nat} {pos : Pos} (hc : X.calm = true) (hh : PGs X es t) (h : X.K = K := by rfl)
    (hn : (assignEach es X.env).length = n := by rfl) (hst : (assignEach es X.env).findIdx? (·.1) = none := by rfl) : PG X (.Tuple es k pos) (gLst K n t) := h ▸ pg_lst hc hh hn hst
theorem k_notT {a : Expr} {ta : TE} {pos : Pos} (ha : PE X a ta) (h : X.K = K := by rfl) : PE X (.UnaryOp .Not a pos) (tNotT K ta) := h ▸ pe_notT ha
def tTruth (K : PySem.W.Frag) (ta : TE) : TT := fun σ H Q => ta σ H fun x H' => ∃ k, TruV K x H' k ∧ Q k H'
theorem k_truth {a : Expr} {ta : TE} (ha : PE X a ta) (he : ∀ whole, isTrue a X.env whole = (do let v ← whole; standAt a.pos; holding [v] (truthy v))) (h : X.K = K := by rfl) : PT X a (tTruth K ta) := h ▸ pt_truth ha he
def tJoin (K : PySem.W.Frag) (to te : TE) : TE := tM1 (fun x xs H Q => ∃ a p, ∃ ys : List Str, x = .str a ∧ xs = [.ref p] ∧ (SqL K H p (ys.map V.str) ∨ SqT K H p (ys.map V.str)) ∧ (ys.map (·.length)).sum + ys.length * a.length ≤ 16777216 ∧ Q (.str (Txt.join a ys)) H) to te
theorem k_join {o e : Expr} {to te : TE} {apos pos : Pos} (ho : PE X o to) (he : PE X e te) (h : X.K = K := by rfl) (hs : starEach [e] X.env = [(false, eval e X.env)] := by rfl) (hbase : attributeBase o "join" X.env (eval o X.env) = eval o X.env := by rfl) (hline : (apos.endLine == pos.line) = true := by rfl) :
    PE X (.Call (.Attribute o "join" apos) [e] [] pos) (tJoin K to te) := h ▸ pe_join ho he hs hbase hline
theorem k_tuple {a : Expr} {ta : TE} {p pos : Pos} (hg : Gl X "tuple") (hm : X.mg "tuple" = none) (ha : PE X a ta) (h : X.K = K := by rfl) (na : starEach [a] X.env = (false, eval a X.env) :: starEach [] X.env := by rfl) :
    PE X (.Call (.Name "tuple" p) [a] [] pos) (tThen ta (kTup K)) := h ▸ pe_tupleOf hg hm ha na
theorem k_revL {e : Expr} {te : TE} {k : Nat} {p1 p2 p3 pos : Pos} (he : PE X e te) (h : X.K = K := by rfl) : PE X (.Subscript e (.Slice none none (some (.UnaryOp .USub (.Constant (.int 1) k p1) p2)) p3) pos) (tRevL K te) := h ▸ pe_revL he
theorem k_slL (h : X.K = K := by rfl) : L2.SlR X (rSlL K) := h ▸ sl_list
theorem k_bm {o e : Expr} {es : List Expr} {to : TE} {t : TA} {name : Str} {apos cpos : Pos} {T id : String} {r : V → List V → Hp → VK → Prop} (pa : PlainAttrs T) (slot : Slot T name id) (hty : typeOf (.builtin id) = pure (.type "method_descriptor")) (hm : MtR X id r) (ho : PE X o to) (ha : PA X (e :: es) t) (h : X.K = K := by rfl)
    (hbase : attributeBase o name X.env (eval o X.env) = eval o X.env := by rfl)
    (hfew : ((backTo cpos (starEach (e :: es) X.env)).all (fun x => !x.1) && (backToKw cpos (keywordEach [] X.env)).all (fun x => x.1.isSome)
      && decide ((e :: es).length + ([] : List Keyword).length + (if ([] : List Keyword).isEmpty then 0 else 1) < 30)) = true := by rfl)
    (hline : (apos.endLine == cpos.line) = true := by rfl) (hs : starEach (e :: es) X.env = (false, eval e X.env) :: starEach es X.env := by rfl) (hplain : (backTo cpos (starEach es X.env)).any (·.1) = false := by rfl) :
    PE X (.Call (.Attribute o name apos) (e :: es) [] cpos) (tBM K T r to t) := h ▸ pe_bm pa slot hty hm ho ha hbase hfew hline hs hplain
end
/-- what the top has left: the defs, the constants, the built-ins' names that it does not bind -/
structure Tx (K : PySem.W.Frag) (mg : Str → Option Value) (aR aS : Addr) : Prop where
  d_is_leaf : Df K mg "is_leaf" (topS 12)
  d_has_form : Df K mg "has_form" (topS 13)
  d_parts_of : Df K mg "parts_of" (topS 14)
  d_letters_of : Df K mg "letters_of" (topS 15)
  d_count_of : Df K mg "count_of" (topS 16)
  d_is_long : Df K mg "is_long" (topS 17)
  d_is_word : Df K mg "is_word" (topS 18)
  d_check_long : Df K mg "check_long" (topS 19)
  d_check_word : Df K mg "check_word" (topS 20)
  d_has_empty : Df K mg "has_empty" (topS 21)
  d_gathered : Df K mg "gathered" (topS 23)
  d_ordered : Df K mg "ordered" (topS 24)
  d_tables_of : Df K mg "tables_of" (topS 25)
  d_next_places : Df K mg "next_places" (topS 26)
  d_rows_of : Df K mg "rows_of" (topS 27)
  d_check_both : Df K mg "check_both" (topS 28)
  d_counts_of : Df K mg "counts_of" (topS 29)
  d_count_markings : Df K mg "count_markings" (topS 30)
  d_first_marking : Df K mg "first_marking" (topS 31)
  d_pairs_in : Df K mg "pairs_in" (topS 33)
  d_conflicts_in : Df K mg "conflicts_in" (topS 34)
  d_places_read : Df K mg "places_read" (topS 35)
  d__law_stream : Df K mg "_law_stream" (topS 37)
  d__law_next : Df K mg "_law_next" (topS 38)
  d__law_is_integer : Df K mg "_law_is_integer" (topS 39)
  d__law_equal : Df K mg "_law_equal" (topS 40)
  d__law_row : Df K mg "_law_row" (topS 41)
  d__law_expression : Df K mg "_law_expression" (topS 42)
  d__law_letters : Df K mg "_law_letters" (topS 43)
  d__law_tables : Df K mg "_law_tables" (topS 47)
  d__law_word : Df K mg "_law_word" (topS 49)
  d__law_walked : Df K mg "_law_walked" (topS 50)
  d__law_follow : Df K mg "_law_follow" (topS 51)
  d__law_pairs : Df K mg "_law_pairs" (topS 52)
  d__law_conflicts : Df K mg "_law_conflicts" (topS 53)
  d__law_told : Df K mg "_law_told" (topS 56)
  d_law : Df K mg "law" (topS 57)
  kLETTERS : ∃ u, mg "LETTERS" = some u ∧ RelV (.str "abcd") u
  kLONGEST_WORD : ∃ u, mg "LONGEST_WORD" = some u ∧ RelV (.int 24) u
  kMOST_LONG_LETTERS : ∃ u, mg "MOST_LONG_LETTERS" = some u ∧ RelV (.int 40) u
  kDEEPEST_LONG : ∃ u, mg "DEEPEST_LONG" = some u ∧ RelV (.int 40) u
  kMOST_LONG_PARTS : ∃ u, mg "MOST_LONG_PARTS" = some u ∧ RelV (.int 200) u
  kROWS : ∃ u, mg "ROWS" = some u ∧ RelV (.ref aR) u
  kSINGLES : ∃ u, mg "SINGLES" = some u ∧ RelV (.ref aS) u
  sROWS : ∀ H, SqT K H aR [.str "join", .str "or"]
  sSINGLES : ∀ H, SqT K H aS [.str "maybe", .str "many"]
  n_isinstance : mg "isinstance" = none
  n_len : mg "len" = none
  n_all : mg "all" = none
  n_any : mg "any" = none
  n_sum : mg "sum" = none
  n_sorted : mg "sorted" = none
  n_abs : mg "abs" = none
  n_int : mg "int" = none
  n_str : mg "str" = none
  n_bool : mg "bool" = none
  n_tuple : mg "tuple" = none
  n_list : mg "list" = none
  n_range : mg "range" = none
end Nd
set_option Elab.async false
set_option linter.all false
set_option maxRecDepth 100000
set_option maxHeartbeats 1000000
/-! Expressions, as data. -/
namespace Nd
open PySem PySem.Spec PyProof.Rows L2
/-- the text of these code points -/
abbrev Sx (l : List Nat) : Str := ⟨l.toArray⟩
/-- an expression: a letter or the empty text; a "join" (true) or an "or"; a "many" (true) or a "maybe" -/
inductive Xp where
  | leaf (l : List Nat)
  | row (j : Bool) (ps : List Xp)
  | one (m : Bool) (e : Xp)
def nmR (j : Bool) : Str := if j then "join" else "or"
def nmO (m : Bool) : Str := if m then "many" else "maybe"
mutual
def enc : Xp → PyData
  | .leaf l => .str (Sx l)
  | .row j ps => .tuple [.str (nmR j), .tuple (encL ps)]
  | .one m e => .tuple [.str (nmO m), enc e]
def encL : List Xp → List PyData
  | [] => []
  | e :: r => enc e :: encL r
end
theorem encL_map : ∀ ps : List Xp, encL ps = ps.map enc
  | [] => rfl
  | e :: r => by rw [encL, encL_map r, List.map_cons]
/-- the letters of the places -/
def lt : Xp → List Nat
  | .leaf l => l
  | .row _ ps => ltL ps
  | .one _ e => lt e
where ltL : List Xp → List Nat
  | [] => []
  | e :: r => lt e ++ ltL r
/-- how many parts there are -/
def cnt : Xp → Nat
  | .leaf _ => 1
  | .row _ ps => 1 + cntL ps
  | .one _ e => 1 + cnt e
where cntL : List Xp → Nat
  | [] => 0
  | e :: r => cnt e + cntL r
/-- how deep -/
def dp : Xp → Nat
  | .leaf _ => 0
  | .row _ ps => 1 + dpL ps
  | .one _ e => 1 + dp e
where dpL : List Xp → Nat
  | [] => 0
  | e :: r => max (dp e) (dpL r)
/-- the empty word is right -/
def em : Xp → Bool
  | .leaf l => l.isEmpty
  | .row true ps => emA ps
  | .row false ps => emO ps
  | .one _ _ => true
where
  emA : List Xp → Bool
    | [] => true
    | e :: r => em e && emA r
  emO : List Xp → Bool
    | [] => false
    | e :: r => em e || emO r
def isR (j : Bool) : Xp → Bool
  | .row k _ => k == j
  | _ => false
/-- the form -/
def wf : Xp → Bool
  | .leaf l => l.isEmpty || (l.length == 1 && l.all fun c => decide (97 ≤ c ∧ c ≤ 100))
  | .row j ps => decide (2 ≤ ps.length) && wfL j ps
  | .one _ e => wf e
where wfL (j : Bool) : List Xp → Bool
  | [] => true
  | e :: r => wf e && (!isR j e && wfL j r)
def parts : Xp → List Xp
  | .leaf _ => []
  | .row _ ps => ps
  | .one _ e => [e]
theorem lt_in : ∀ {ps : List Xp} {e : Xp}, e ∈ ps → (lt e).length ≤ (lt.ltL ps).length
  | a :: r, e, h => by
    rw [lt.ltL, List.length_append]
    rcases List.mem_cons.mp h with rfl | h
    · omega
    · have := lt_in h; omega
theorem cnt_in : ∀ {ps : List Xp} {e : Xp}, e ∈ ps → cnt e ≤ cnt.cntL ps
  | a :: r, e, h => by
    rw [cnt.cntL]
    rcases List.mem_cons.mp h with rfl | h
    · omega
    · have := cnt_in h; omega
theorem dp_in : ∀ {ps : List Xp} {e : Xp}, e ∈ ps → dp e ≤ dp.dpL ps
  | a :: r, e, h => by
    rw [dp.dpL]
    rcases List.mem_cons.mp h with rfl | h
    · omega
    · have := dp_in h; omega
theorem cnt_pos : ∀ e : Xp, 1 ≤ cnt e
  | .leaf _ => by simp [cnt]
  | .row _ _ => by simp [cnt]
  | .one _ _ => by simp [cnt]
theorem len_cnt : ∀ ps : List Xp, ps.length ≤ cnt.cntL ps
  | [] => by simp [cnt.cntL]
  | e :: r => by
    have := len_cnt r
    have := cnt_pos e
    rw [cnt.cntL, List.length_cons]
    omega
theorem wf_in {j : Bool} : ∀ {ps : List Xp} {e : Xp}, wf.wfL j ps = true → e ∈ ps → wf e = true ∧ isR j e = false
  | a :: r, e, w, h => by
    rw [wf.wfL, Bool.and_eq_true, Bool.and_eq_true] at w
    rcases List.mem_cons.mp h with rfl | h
    · exact ⟨w.1, by simpa using w.2.1⟩
    · exact wf_in w.2.2 h
mutual
theorem dp_cnt : ∀ e : Xp, dp e ≤ cnt e
  | .leaf _ => by simp [cnt, dp]
  | .row _ ps => by
    have := dpL_cnt ps
    rw [cnt, dp]; omega
  | .one _ e => by
    have := dp_cnt e
    rw [cnt, dp]; omega
theorem dpL_cnt : ∀ ps : List Xp, dp.dpL ps ≤ cnt.cntL ps
  | [] => by simp [cnt.cntL, dp.dpL]
  | e :: r => by
    have := dp_cnt e
    have := dpL_cnt r
    rw [cnt.cntL, dp.dpL]; omega
end
theorem len_Sx (l : List Nat) : (Sx l).length = l.length := SX.S_len l
theorem shaped_int (i : Int) : SeqAt.shaped (.int i) = true := by rfl
end Nd
set_option Elab.async false
set_option linter.all false
set_option maxRecDepth 100000
set_option maxHeartbeats 1000000
/-! Short rules over expressions as data. -/
namespace Nd
open PySem PySem.Spec PyProof.Rows L2
open Evl (Ex Ex.refl Ex.trans Ex.new)
def isDi : PyData → Bool
  | .dict _ => true
  | _ => false
def isS : PyData → Bool
  | .str _ => true
  | _ => false
def isTp : PyData → Bool
  | .tuple _ => true
  | _ => false
def isLi : PyData → Bool
  | .list _ => true
  | _ => false
def isBo : PyData → Bool
  | .bool _ => true
  | _ => false
def isIn : PyData → Bool
  | .int _ => true
  | .bool _ => true
  | _ => false
section
variable {K : PySem.W.Frag} {ρ : Ev} {ta tb te : TE} {tt tu : TT} {x y z d : PyData} {ds : List PyData}
theorem R2D.is' {r : R2} {b c : Bool} (h : R2D r x y (.bool b)) (e : b = c) : R2D r x y (.bool c) := e ▸ h
theorem dk_len {n : Nat} (h : Den ta ρ d) (hn : lenD d = some n) : Den (tCB (rLenQ K) (tCons ta tNil)) ρ (.int n) := dn_cb (da_cons h da_nil) (rc_len hn)
theorem dk_truth {b : Bool} (h : Den ta ρ d) (hb : tru d = b) (hs : ∀ s, d = .str s → s.length ≤ 100000) : DenT (tTruth K ta) ρ b := hb ▸ dt_truth h hs
theorem dn_isiB {n : String} {f : PyData → Bool} (h : Den ta ρ d) (k0 : kitB "NoneType" n = some (f .none)) (k1 : ∀ b, kitB "bool" n = some (f (.bool b))) (k2 : ∀ i, kitB "int" n = some (f (.int i))) (k3 : ∀ s, kitB "str" n = some (f (.str s)))
    (k4 : ∀ l, kitB "list" n = some (f (.list l))) (k5 : ∀ l, kitB "tuple" n = some (f (.tuple l))) (k6 : ∀ l, kitB "dict" n = some (f (.dict l))) : Den (tCB (rIsi K) (tCons ta (tCons (tC (.ty n)) tNil))) ρ (.bool (f d)) := fun M σ H m e Q q =>
  h M σ H m e _ fun v H1 e1 d1 => ⟨v, .ty n, _, _, f d, rfl, .ty n, tyX_of d1, kit_ty (by
    cases d1 with
    | non => exact k0
    | bl b => exact k1 b
    | int i => exact k2 i
    | str s => exact k3 s
    | lst _ _ _ => exact k4 _
    | tup _ _ _ => exact k5 _
    | dct _ _ _ => exact k6 _), q _ H1 e1 (.bl _)⟩
theorem kS : (kitB "NoneType" "str" = some false ∧ kitB "bool" "str" = some false ∧ kitB "int" "str" = some false) ∧ (kitB "str" "str" = some true ∧ kitB "list" "str" = some false ∧ kitB "tuple" "str" = some false) := by decide +kernel
theorem kT : (kitB "NoneType" "tuple" = some false ∧ kitB "bool" "tuple" = some false ∧ kitB "int" "tuple" = some false) ∧ (kitB "str" "tuple" = some false ∧ kitB "list" "tuple" = some false ∧ kitB "tuple" "tuple" = some true) := by decide +kernel
theorem kL : (kitB "NoneType" "list" = some false ∧ kitB "bool" "list" = some false ∧ kitB "int" "list" = some false) ∧ (kitB "str" "list" = some false ∧ kitB "list" "list" = some true ∧ kitB "tuple" "list" = some false) := by decide +kernel
theorem kB : (kitB "NoneType" "bool" = some false ∧ kitB "bool" "bool" = some true ∧ kitB "int" "bool" = some false) ∧ (kitB "str" "bool" = some false ∧ kitB "list" "bool" = some false ∧ kitB "tuple" "bool" = some false) := by decide +kernel
theorem kI : (kitB "NoneType" "int" = some false ∧ kitB "bool" "int" = some true ∧ kitB "int" "int" = some true) ∧ (kitB "str" "int" = some false ∧ kitB "list" "int" = some false ∧ kitB "tuple" "int" = some false) := by decide +kernel
theorem kD : kitB "dict" "str" = some false ∧ kitB "dict" "tuple" = some false ∧ kitB "dict" "list" = some false ∧ kitB "dict" "bool" = some false ∧ kitB "dict" "int" = some false := by decide +kernel
theorem dn_isS (h : Den ta ρ d) : Den (tCB (rIsi K) (tCons ta (tCons (tC (.ty "str")) tNil))) ρ (.bool (isS d)) := dn_isiB h kS.1.1 (fun _ => kS.1.2.1) (fun _ => kS.1.2.2) (fun _ => kS.2.1) (fun _ => kS.2.2.1) (fun _ => kS.2.2.2) (fun _ => kD.1)
theorem dn_isT (h : Den ta ρ d) : Den (tCB (rIsi K) (tCons ta (tCons (tC (.ty "tuple")) tNil))) ρ (.bool (isTp d)) := dn_isiB h kT.1.1 (fun _ => kT.1.2.1) (fun _ => kT.1.2.2) (fun _ => kT.2.1) (fun _ => kT.2.2.1) (fun _ => kT.2.2.2) (fun _ => kD.2.1)
theorem dn_isL (h : Den ta ρ d) : Den (tCB (rIsi K) (tCons ta (tCons (tC (.ty "list")) tNil))) ρ (.bool (isLi d)) := dn_isiB h kL.1.1 (fun _ => kL.1.2.1) (fun _ => kL.1.2.2) (fun _ => kL.2.1) (fun _ => kL.2.2.1) (fun _ => kL.2.2.2) (fun _ => kD.2.2.1)
theorem dn_isB (h : Den ta ρ d) : Den (tCB (rIsi K) (tCons ta (tCons (tC (.ty "bool")) tNil))) ρ (.bool (isBo d)) := dn_isiB h kB.1.1 (fun _ => kB.1.2.1) (fun _ => kB.1.2.2) (fun _ => kB.2.1) (fun _ => kB.2.2.1) (fun _ => kB.2.2.2) (fun _ => kD.2.2.2.1)
theorem dn_isI (h : Den ta ρ d) : Den (tCB (rIsi K) (tCons ta (tCons (tC (.ty "int")) tNil))) ρ (.bool (isIn d)) := dn_isiB h kI.1.1 (fun _ => kI.1.2.1) (fun _ => kI.1.2.2) (fun _ => kI.2.1) (fun _ => kI.2.2.1) (fun _ => kI.2.2.2) (fun _ => kD.2.2.2.2)
/-- t[k], k written -/
theorem dn_ixT {k : Int} (h : Den ta ρ (.tuple ds)) (hz : atI ds k = some z) : Den (tOp (rIxT K) ta (tC (.int k))) ρ z := dn_op h dn_int (rd_ixT hz)
theorem dn_ixL {k : Int} (h : Den ta ρ (.list ds)) (hz : atI ds k = some z) : Den (tOp (rIxL K) ta (tC (.int k))) ρ z := dn_op h dn_int (rd_ixL hz)
/-! ### an expression's word -/
def hd0 : Xp → Str
  | .leaf l => Sx l
  | .row j _ => nmR j
  | .one m _ => nmO m
def single : Xp → Bool
  | .one _ _ => true
  | _ => false
theorem dn_hd {e : Xp} (h : Den ta ρ (enc e)) (hl : ∀ l, e ≠ .leaf l) : Den (tOp (rIxT K) ta (tC (.int 0))) ρ (.str (hd0 e)) := by
  cases e with
  | leaf l => exact absurd rfl (hl l)
  | row j ps => exact dn_ixT h rfl
  | one m e => exact dn_ixT h rfl
theorem words_apart : (("join" : Str) ≠ "or" ∧ ("join" : Str) ≠ "maybe" ∧ ("join" : Str) ≠ "many") ∧ (("or" : Str) ≠ "maybe" ∧ ("or" : Str) ≠ "many" ∧ ("maybe" : Str) ≠ "many") := by decide +kernel
theorem sing_k : (([.str "maybe", .str "many"] : List PyData).any (fun y => eqF y (.str "join")) = false ∧ ([.str "maybe", .str "many"] : List PyData).any (fun y => eqF y (.str "or")) = false) ∧
    (([.str "maybe", .str "many"] : List PyData).any (fun y => eqF y (.str "maybe")) = true ∧ ([.str "maybe", .str "many"] : List PyData).any (fun y => eqF y (.str "many")) = true) := by decide +kernel
theorem rows_k : (([.str "join", .str "or"] : List PyData).any (fun y => eqF y (.str "join")) = true ∧ ([.str "join", .str "or"] : List PyData).any (fun y => eqF y (.str "or")) = true) ∧
    (([.str "join", .str "or"] : List PyData).any (fun y => eqF y (.str "maybe")) = false ∧ ([.str "join", .str "or"] : List PyData).any (fun y => eqF y (.str "many")) = false) := by decide +kernel
theorem in_singles {e : Xp} (hl : ∀ l, e ≠ .leaf l) : ([.str "maybe", .str "many"] : List PyData).any (fun y => eqF y (.str (hd0 e))) = single e := by
  cases e with
  | leaf l => exact absurd rfl (hl l)
  | row j ps => cases j <;> first | exact sing_k.1.1 | exact sing_k.1.2
  | one m e => cases m <;> first | exact sing_k.2.1 | exact sing_k.2.2
theorem in_rows {e : Xp} (hl : ∀ l, e ≠ .leaf l) : ([.str "join", .str "or"] : List PyData).any (fun y => eqF y (.str (hd0 e))) = !single e := by
  cases e with
  | leaf l => exact absurd rfl (hl l)
  | row j ps => cases j <;> first | exact rows_k.1.1 | exact rows_k.1.2
  | one m e => cases m <;> first | exact rows_k.2.1 | exact rows_k.2.2
/-- e[0] in SINGLES -/
theorem dn_single {e : Xp} {a : Addr} (hs : ∀ H, SqT K H a [.str "maybe", .str "many"]) (h : Den ta ρ (enc e)) (hl : ∀ l, e ≠ .leaf l) : Den (tOp (rIn K false) (tOp (rIxT K) ta (tC (.int 0))) (tC (.ref a))) ρ (.bool (single e)) :=
  dn_inK (dn_hd h hl) hs (fun M H => .cons (.str _) (.cons (.str _) .nil)) rfl rfl (by rw [if_neg Bool.false_ne_true]; exact in_singles hl)
/-- e[0] in ['maybe', 'many'] | ('maybe', 'many') -/
theorem dn_singleL {e : Xp} (h : Den ta ρ (enc e)) (hl : ∀ l, e ≠ .leaf l) : Den (tOp (rIn K false) (tOp (rIxT K) ta (tC (.int 0))) (tLst (tCons (tC (.str "maybe")) (tCons (tC (.str "many")) tNil)))) ρ (.bool (single e)) :=
  dn_op (dn_hd h hl) (dn_lst (da_cons dn_str (da_cons dn_str da_nil)) (by decide)) (rd_inL rfl rfl (in_singles hl))
theorem dn_singleT {e : Xp} (h : Den ta ρ (enc e)) (hl : ∀ l, e ≠ .leaf l) : Den (tOp (rIn K false) (tOp (rIxT K) ta (tC (.int 0))) (tTup (tCons (tC (.str "maybe")) (tCons (tC (.str "many")) tNil)))) ρ (.bool (single e)) :=
  dn_op (dn_hd h hl) (dn_tup (da_cons dn_str (da_cons dn_str da_nil)) (by decide)) (rd_inT rfl rfl (in_singles hl))
/-- e[0] not in ROWS -/
theorem dn_notRow {e : Xp} {a : Addr} (hs : ∀ H, SqT K H a [.str "join", .str "or"]) (h : Den ta ρ (enc e)) (hl : ∀ l, e ≠ .leaf l) : Den (tOp (rIn K true) (tOp (rIxT K) ta (tC (.int 0))) (tC (.ref a))) ρ (.bool (single e)) :=
  dn_inK (dn_hd h hl) hs (fun M H => .cons (.str _) (.cons (.str _) .nil)) rfl rfl (by rw [if_pos rfl, in_rows hl, Bool.not_not])
theorem dn_join0 {lls : List (List Nat)} (h2 : Den tb ρ (.list (lls.map fun l => .str (Sx l)))) (hz : lls.flatten.length ≤ 100000) (hn : lls.length ≤ 100000) :
    Den (tJoin K (tC (.str "")) tb) ρ (.str (Sx lls.flatten)) := by
  have e1 : (lls.map fun l => PyData.str (Sx l)) = (lls.map Sx).map PyData.str := by rw [List.map_map]; rfl
  rw [e1] at h2
  have hs : (("" : Str)) = Sx [] := by decide +kernel
  have hlen : ((lls.map Sx).map (·.length)).sum = lls.flatten.length := by
    rw [List.map_map, List.length_flatten]
    exact congrArg List.sum (List.map_congr_left fun l _ => len_Sx l)
  refine (dn_join (dn_str (s := "")) h2 ?_).is ?_
  · rw [hlen, hs, len_Sx]
    show lls.flatten.length + (lls.map Sx).length * 0 ≤ 16777216
    omega
  · rw [hs]
    congr 1
    have j : ∀ l : List (List Nat), TL.joinL [] l = l.flatten := by
      intro l
      induction l with
      | nil => rfl
      | cons p r ih =>
        cases r with
        | nil => simp [TL.joinL]
        | cons q r => rw [TL.joinL, ih]; simp
    have := SX.join_S [] lls
    rw [j] at this
    exact this
end
/-- the bounds of what is built: enough room everywhere -/
structure Ok (e : Xp) : Prop where
  c : cnt e ≤ 30
  l : (lt e).length ≤ 10
  w : wf e = true
theorem Ok.parts {e p : Xp} (h : Ok e) (hp : p ∈ parts e) : Ok p ∧ dp p < dp e := by
  cases e with
  | leaf l => cases hp
  | row j ps =>
    replace hp : p ∈ ps := hp
    have w := h.w
    rw [wf, Bool.and_eq_true] at w
    have hc := h.c
    rw [cnt] at hc
    have hl := h.l
    rw [lt] at hl
    have h1 := cnt_in hp
    have h2 := lt_in hp
    have h3 := dp_in hp
    exact ⟨⟨by omega, by omega, (wf_in w.2 hp).1⟩, by rw [dp]; omega⟩
  | one m q =>
    cases List.mem_singleton.mp hp
    have hc := h.c
    rw [cnt] at hc
    exact ⟨⟨by omega, h.l, h.w⟩, by rw [dp]; omega⟩
theorem Ok.len {e : Xp} (h : Ok e) : (Nd.parts e).length ≤ 100 := by
  cases e with
  | leaf l => simp [Nd.parts]
  | row j ps =>
    have hc := h.c
    rw [cnt] at hc
    have := len_cnt ps
    show ps.length ≤ 100
    omega
  | one m q => simp [Nd.parts]
theorem lt_parts : ∀ e : Xp, (∀ l, e ≠ .leaf l) → lt e = ((parts e).map lt).flatten
  | .leaf l, h => absurd rfl (h l)
  | .row j ps, _ => by
    have h : ∀ ps : List Xp, lt.ltL ps = (ps.map lt).flatten := by
      intro ps
      induction ps with
      | nil => rfl
      | cons a r ih => rw [lt.ltL, ih]; rfl
    rw [lt, h]; rfl
  | .one m e, _ => by simp [lt, parts]
theorem cnt_parts : ∀ e : Xp, cnt e = 1 + ((parts e).map cnt).sum
  | .leaf l => by simp [cnt, parts]
  | .row j ps => by
    have h : ∀ ps : List Xp, cnt.cntL ps = (ps.map cnt).sum := by
      intro ps
      induction ps with
      | nil => rfl
      | cons a r ih => rw [cnt.cntL, ih]; rfl
    rw [cnt, h]; rfl
  | .one m e => by simp [cnt, parts]
section
variable {P : Program} {w : World} {K : PySem.W.Frag} {mg : Str → Option Value} {base : Heap}
/-- nothing is asked -/
theorem cl_none {x : Str} {st : Stmt} {ps : List Str} {k : Nat} {sp : Sp} (D : Df K mg x st)
    (hb : ∀ (kV doc pm : Value) (an : Option Addr) (cdv ct : Value) (us : List Value), us.length = ps.length → bindArgs (PySem.W.fnOf x x (defArgs st) (defBody st) (defScope st) .none kV doc pm an cdv ct) ⟨us, []⟩ = pure (ps.zip us))
    (no : ∀ vs H Q E, ¬ sp vs H Q E) : Cl P w K mg base k x sp := by
  obtain ⟨f, fd, F, m⟩ := D.ex
  exact ⟨f, fd, ps, ⟨fun vs H Q E h => absurd h (no vs H Q E), fun A outer s H args us vs Q E _ _ _ _ h => absurd h (no vs H Q E)⟩, m, F.kp, F.bindsN hb⟩
theorem no_F {Pre : List PyData → PyData → Prop} (h : ∀ ds d, ¬ Pre ds d) : ∀ vs H Q E, ¬ SpF Pre vs H Q E := by
  rintro vs H Q E ⟨M, ds, d, _, _, p, _⟩
  exact h ds d p
end
end Nd
set_option Elab.async false
set_option linter.all false
set_option maxRecDepth 100000
set_option maxHeartbeats 1000000
/-! The places of an expression: first, last, following (as the program gathers them). -/
namespace Nd
open PySem PySem.Spec PyProof.Rows L2
abbrev G3 := List Int × List Int × List (Int × Int)
structure GS where
  F : List Int
  L : List Int
  P : List (Int × Int)
  at_ : Int
  b : Bool
def cross (l f : List Int) : List (Int × Int) := l.flatMap fun a => f.map fun b => (a, b)
def gst (j : Bool) (s : GS) (g : G3) (n : Nat) (b : Bool) : GS :=
  if j then ⟨s.F ++ (if s.b then g.1 else []), g.2.1 ++ (if b then s.L else []), s.P ++ g.2.2 ++ cross s.L g.1, s.at_ + n, s.b && b⟩ else ⟨s.F ++ g.1, s.L ++ g.2.1, s.P ++ g.2.2, s.at_ + n, s.b⟩
mutual
def ga : Xp → Int → G3
  | .leaf l, k => (if l.isEmpty then [] else [k], if l.isEmpty then [] else [k], [])
  | .one m e, k => ((ga e k).1, (ga e k).2.1, (ga e k).2.2 ++ if m then cross (ga e k).2.1 (ga e k).1 else [])
  | .row j ps, k => ((gaL j ps ⟨[], [], [], k, true⟩).F, (gaL j ps ⟨[], [], [], k, true⟩).L, (gaL j ps ⟨[], [], [], k, true⟩).P)
def gaL (j : Bool) : List Xp → GS → GS
  | [], s => s
  | e :: r, s => gaL j r (gst j s (ga e s.at_) (lt e).length (em e))
end
theorem gaL_snoc (j : Bool) (e : Xp) : ∀ (l : List Xp) (s : GS), gaL j (l ++ [e]) s = gst j (gaL j l s) (ga e (gaL j l s).at_) (lt e).length (em e)
  | [], s => rfl
  | a :: l, s => by
    show gaL j (l ++ [e]) _ = _
    rw [gaL_snoc j e l]
    rfl
/-- what is gathered stays within the places k .. k + n -/
structure GB (g : G3) (k : Int) (n c : Nat) : Prop where
  f : g.1.length ≤ n
  l : g.2.1.length ≤ n
  p : g.2.2.length ≤ 100 * (c - 1)
  fi : ∀ a ∈ g.1, k ≤ a ∧ a < k + n
  li : ∀ a ∈ g.2.1, k ≤ a ∧ a < k + n
  pi : ∀ a ∈ g.2.2, (k ≤ a.1 ∧ a.1 < k + n) ∧ k ≤ a.2 ∧ a.2 < k + n
structure SB (s : GS) (k : Int) (n c : Nat) : Prop where
  f : s.F.length ≤ n
  l : s.L.length ≤ n
  p : s.P.length ≤ 100 * c
  at_ : s.at_ = k + n
  fi : ∀ a ∈ s.F, k ≤ a ∧ a < k + n
  li : ∀ a ∈ s.L, k ≤ a ∧ a < k + n
  pi : ∀ a ∈ s.P, (k ≤ a.1 ∧ a.1 < k + n) ∧ k ≤ a.2 ∧ a.2 < k + n
theorem cross_len (l f : List Int) : (cross l f).length = l.length * f.length := by
  unfold cross
  induction l with
  | nil => simp
  | cons a r ih => rw [List.flatMap_cons, List.length_append, ih, List.length_map, List.length_cons, Nat.add_mul]; omega
theorem mem_cross {l f : List Int} {a : Int × Int} : a ∈ cross l f ↔ a.1 ∈ l ∧ a.2 ∈ f := by
  unfold cross
  rw [List.mem_flatMap]
  constructor
  · rintro ⟨x, hx, h⟩
    obtain ⟨y, hy, rfl⟩ := List.mem_map.mp h
    exact ⟨hx, hy⟩
  · rintro ⟨h1, h2⟩
    exact ⟨a.1, h1, List.mem_map.mpr ⟨a.2, h2, rfl⟩⟩
theorem cross_le {l f : List Int} (h1 : l.length ≤ 10) (h2 : f.length ≤ 10) : (cross l f).length ≤ 100 := by
  rw [cross_len]
  exact Nat.le_trans (Nat.mul_le_mul h1 h2) (by decide)
mutual
theorem ga_b : ∀ (e : Xp) (k : Int), wf e = true → (lt e).length ≤ 10 → GB (ga e k) k (lt e).length (cnt e)
  | .leaf l, k, w, h => by
    rw [ga, lt, cnt]
    have hl : l.isEmpty = true ∨ l.length = 1 := by
      rw [wf, Bool.or_eq_true, Bool.and_eq_true] at w
      rcases w with z | ⟨z, _⟩
      · exact .inl z
      · exact .inr (by simpa using z)
    rcases hl with hl | hl
    · rw [hl]
      refine ⟨by simp, by simp, by simp, ?_, ?_, ?_⟩ <;> simp
    · have : l.isEmpty = false := by
        cases l with
        | nil => simp at hl
        | cons _ _ => rfl
      rw [this, hl]
      refine ⟨by simp, by simp, by simp, ?_, ?_, ?_⟩ <;> simp <;> omega
  | .one m e, k, w, h => by
    have w' : wf e = true := w
    have h' : (lt e).length ≤ 10 := h
    have ih := ga_b e k w' h'
    rw [ga, lt, cnt]
    have c1 := cnt_pos e
    have hx := cross_le (Nat.le_trans ih.l h') (Nat.le_trans ih.f h')
    refine ⟨ih.f, ih.l, ?_, ih.fi, ih.li, ?_⟩
    · have := ih.p
      simp only [List.length_append]
      split
      · omega
      · simp; omega
    · intro a ha
      rcases List.mem_append.mp ha with ha | ha
      · exact ih.pi a ha
      · split at ha
        · rw [mem_cross] at ha
          exact ⟨ih.li _ ha.1, ih.fi _ ha.2⟩
        · cases ha
  | .row j ps, k, w, h => by
    rw [wf, Bool.and_eq_true] at w
    have h' : (lt.ltL ps).length ≤ 10 := h
    have s := gaL_b j ps ⟨[], [], [], k, true⟩ k 0 0 w.2 (by omega) ⟨by simp, by simp, by simp, by simp, by simp, by simp, by simp⟩
    rw [ga, lt, cnt]
    simp only [Nat.zero_add] at s
    exact ⟨s.f, s.l, by have := s.p; simp only [Nat.add_sub_cancel_left]; exact this, s.fi, s.li, s.pi⟩
theorem gaL_b (j : Bool) : ∀ (ps : List Xp) (s : GS) (k : Int) (n c : Nat), wf.wfL j ps = true → n + (lt.ltL ps).length ≤ 10 → SB s k n c → SB (gaL j ps s) k (n + (lt.ltL ps).length) (c + cnt.cntL ps)
  | [], s, k, n, c, _, _, h => by simpa [gaL, lt.ltL, cnt.cntL] using h
  | e :: r, s, k, n, c, w, hn, h => by
    rw [wf.wfL, Bool.and_eq_true, Bool.and_eq_true] at w
    rw [lt.ltL, List.length_append] at hn
    have g := ga_b e s.at_ w.1 (by omega)
    have c1 := cnt_pos e
    have st : SB (gst j s (ga e s.at_) (lt e).length (em e)) k (n + (lt e).length) (c + cnt e) := by
      have ha := h.at_
      have hx := cross_le (l := s.L) (f := (ga e s.at_).1) (by have := h.l; omega) (by have := g.f; omega)
      have hf := h.f
      have hl := h.l
      have hp := h.p
      have gf := g.f
      have gl := g.l
      have gp := g.p
      have old : ∀ a, k ≤ a ∧ a < k + n → k ≤ a ∧ a < k + (n + (lt e).length : Nat) := fun a z => ⟨z.1, by have := z.2; omega⟩
      have new : ∀ a, s.at_ ≤ a ∧ a < s.at_ + (lt e).length → k ≤ a ∧ a < k + (n + (lt e).length : Nat) := fun a z => by have := z.1; have := z.2; omega
      unfold gst
      split
      · refine ⟨?_, ?_, ?_, by simp only; omega, ?_, ?_, ?_⟩
        · simp only [List.length_append]
          split
          · omega
          · simp; omega
        · simp only [List.length_append]
          split
          · omega
          · simp; omega
        · simp only [List.length_append]
          omega
        · intro a ha
          rcases List.mem_append.mp ha with ha | ha
          · exact old a (h.fi a ha)
          · split at ha
            · exact new a (g.fi a ha)
            · cases ha
        · intro a ha
          rcases List.mem_append.mp ha with ha | ha
          · exact new a (g.li a ha)
          · split at ha
            · exact old a (h.li a ha)
            · cases ha
        · intro a ha
          rcases List.mem_append.mp ha with ha | ha
          · rcases List.mem_append.mp ha with ha | ha
            · exact ⟨old _ (h.pi a ha).1, old _ (h.pi a ha).2⟩
            · exact ⟨new _ (g.pi a ha).1, new _ (g.pi a ha).2⟩
          · rw [mem_cross] at ha
            exact ⟨old _ (h.li _ ha.1), new _ (g.fi _ ha.2)⟩
      · refine ⟨?_, ?_, ?_, by simp only; omega, ?_, ?_, ?_⟩
        · simp only [List.length_append]; omega
        · simp only [List.length_append]; omega
        · simp only [List.length_append]; omega
        · intro a ha
          rcases List.mem_append.mp ha with ha | ha
          · exact old a (h.fi a ha)
          · exact new a (g.fi a ha)
        · intro a ha
          rcases List.mem_append.mp ha with ha | ha
          · exact old a (h.li a ha)
          · exact new a (g.li a ha)
        · intro a ha
          rcases List.mem_append.mp ha with ha | ha
          · exact ⟨old _ (h.pi a ha).1, old _ (h.pi a ha).2⟩
          · exact ⟨new _ (g.pi a ha).1, new _ (g.pi a ha).2⟩
    have ih := gaL_b j r _ k _ _ w.2.2 (by omega) st
    rw [lt.ltL, cnt.cntL, List.length_append]
    rw [Nat.add_assoc, Nat.add_assoc] at ih
    exact ih
end
theorem len_if (b : Bool) {α : Type} (l : List α) : (if b then l else []).length ≤ l.length := by
  cases b
  · exact Nat.zero_le _
  · exact Nat.le_refl _
theorem ltL_app : ∀ a b : List Xp, lt.ltL (a ++ b) = lt.ltL a ++ lt.ltL b
  | [], b => rfl
  | e :: a, b => by rw [List.cons_append, lt.ltL, ltL_app a b, lt.ltL, List.append_assoc]
theorem cntL_app : ∀ a b : List Xp, cnt.cntL (a ++ b) = cnt.cntL a + cnt.cntL b
  | [], b => by simp [cnt.cntL]
  | e :: a, b => by rw [List.cons_append, cnt.cntL, cntL_app a b, cnt.cntL, Nat.add_assoc]
theorem wfL_app {j : Bool} : ∀ {a b : List Xp}, wf.wfL j (a ++ b) = true → wf.wfL j a = true
  | [], b, _ => rfl
  | e :: a, b, h => by
    rw [List.cons_append, wf.wfL, Bool.and_eq_true, Bool.and_eq_true] at h
    rw [wf.wfL, h.1, h.2.1, wfL_app h.2.2]
    rfl
theorem gaS_b {j : Bool} {ps : List Xp} (ok : Ok (.row j ps)) (k : Int) (i : Nat) : SB (gaL j (ps.take i) ⟨[], [], [], k, true⟩) k (lt.ltL (ps.take i)).length (cnt.cntL (ps.take i)) ∧ (lt.ltL (ps.take i)).length ≤ 10 ∧ cnt.cntL (ps.take i) ≤ 30 := by
  have w := ok.w
  rw [wf, Bool.and_eq_true] at w
  have hl : (lt.ltL ps).length ≤ 10 := ok.l
  have hc := ok.c
  rw [cnt] at hc
  have e := List.take_append_drop i ps
  have h1 := ltL_app (ps.take i) (ps.drop i)
  have h2 := cntL_app (ps.take i) (ps.drop i)
  rw [e] at h1 h2
  rw [h1, List.length_append] at hl
  have h3 : wf.wfL j (ps.take i) = true := by
    have := w.2
    rw [← e] at this
    exact wfL_app this
  have := gaL_b j (ps.take i) ⟨[], [], [], k, true⟩ k 0 0 h3 (by omega) ⟨by simp, by simp, by simp, by simp, by simp, by simp, by simp⟩
  rw [Nat.zero_add, Nat.zero_add] at this
  exact ⟨this, by omega, by omega⟩
/-! ### as data -/
def dI (l : List Int) : PyData := .list (l.map .int)
def pr (p : Int × Int) : PyData := .tuple [.int p.1, .int p.2]
def dP (l : List (Int × Int)) : PyData := .list (l.map pr)
theorem dI_app (a b : List Int) : dI (a ++ b) = .list (a.map .int ++ b.map .int) := by unfold dI; rw [List.map_append]
theorem dP_app (a b : List (Int × Int)) : dP (a ++ b) = .list (a.map pr ++ b.map pr) := by unfold dP; rw [List.map_append]
section
variable {K : PySem.W.Frag} {ρ : Ev} {ta tb te : TE}
theorem dn_catI {a b : List Int} (h1 : Den ta ρ (dI a)) (h2 : Den tb ρ (dI b)) (hl : a.length + b.length ≤ 100000) : Den (tOp rCat ta tb) ρ (dI (a ++ b)) := by
  rw [dI_app]
  exact dn_op h1 h2 (rd_cat (by rw [List.length_map, List.length_map]; exact hl))
theorem dn_catP {a b : List (Int × Int)} (h1 : Den ta ρ (dP a)) (h2 : Den tb ρ (dP b)) (hl : a.length + b.length ≤ 100000) : Den (tOp rCat ta tb) ρ (dP (a ++ b)) := by
  rw [dP_app]
  exact dn_op h1 h2 (rd_cat (by rw [List.length_map, List.length_map]; exact hl))
theorem dn_nilI : Den (tLst tNil) ρ (dI []) := dn_lst da_nil (Nat.zero_le _)
theorem dn_nilP : Den (tLst tNil) ρ (dP []) := dn_lst da_nil (Nat.zero_le _)
/-- [(one, other) for one in l for other in f], at the slots i and k -/
theorem dn_cross {i k : Nat} {vs : List Nat} {l f : List Int} (h1 : Den ta ρ (dI l)) (h2 : ∀ a ∈ l, Den tb ((wpE ρ vs).set i (some (.d (.int a)))) (dI f)) (hi : i ∈ vs) (hk : k ∈ vs)
    (he : ∀ a ∈ l, ∀ b ∈ f, Den te ((wpE ((wpE ρ vs).set i (some (.d (.int a)))) [k]).set k (some (.d (.int b)))) (pr (a, b))) (hl : l.length ≤ 10) (hf : f.length ≤ 10) :
    Den (tLc2 (iList K ta) (gName i) tYes (iList K tb) (gName k) tYes te vs [k]) ρ (dP (cross l f)) := by
  have h := dn_lc2 (ρ := ρ) (tt := tYes) (te := te) (wi := iList K ta) (wi1 := iList K tb) (g := gName i) (g1 := gName k) (vs := vs) (vs1 := [k]) l .int (fun _ => f) .int (fun _ _ => true) (fun a b => pr (a, b)) (fun a => (wpE ρ vs).set i (some (.d (.int a))))
    (fun a b => (wpE ((wpE ρ vs).set i (some (.d (.int a)))) [k]).set k (some (.d (.int b)))) (di_list h1) (fun a ha => DenG.js dg_name (by simpa using hi)) (fun a ha => di_list (h2 a ha)) (fun a ha b hb => dg_name) (fun _ _ _ _ => dt_yes) (fun a ha b hb _ => he a ha b hb) ?_ (fun _ _ => by omega)
  · refine h.is ?_
    unfold dP cross
    rw [List.map_flatMap]
    congr 1
    refine congrArg (fun g => List.flatMap g l) (funext fun a => ?_)
    rw [List.filter_eq_self.mpr (fun _ _ => rfl), List.map_map]
    rfl
  · intro n hn
    have : ((l.take n).flatMap fun d => (f.filter fun _ => true).map fun b => pr (d, b)).length ≤ (l.take n).length * f.length := by
      generalize l.take n = m
      induction m with
      | nil => simp
      | cons a r ih =>
        rw [List.flatMap_cons, List.length_append, List.length_map, List.filter_eq_self.mpr (fun _ _ => rfl), List.length_cons, Nat.add_mul]
        rw [List.filter_eq_self.mpr (fun _ _ => rfl)] at ih
        omega
    have h2 : (l.take n).length ≤ 10 := by rw [List.length_take]; omega
    have := Nat.mul_le_mul h2 hf
    omega
end
end Nd
set_option Elab.async false
set_option linter.all false
set_option maxRecDepth 100000
set_option maxHeartbeats 1000000
/-! A list, a dict of the def's own that grows: told beside the data. -/
namespace Nd
open PySem PySem.Spec PyProof.Rows L2
open Evl (Ex Ex.refl Ex.trans Ex.new)
def Xq (p : Addr) (H H' : Hp) : Prop := ∀ b o, b ≠ p → H b = some o → H' b = some o
theorem Xq.of {p : Addr} {H H' : Hp} (e : Ex H H') : Xq p H H' := fun b o _ h => e b o h
theorem Xq.refl {p : Addr} {H : Hp} : Xq p H H := fun _ _ _ h => h
theorem Xq.trans {p : Addr} {H H1 H2 : Hp} (a : Xq p H H1) (b : Xq p H1 H2) : Xq p H H2 := fun c o n h => b c o n (a c o n h)
theorem Xq.xt {M : Mt} {p : Addr} {H H' : Hp} (a : Xq p H H') (h : M p) : Xt M H H' := fun b o n e => a b o (fun z => n (by rw [z]; exact h)) e
theorem Xq.grw {M : Mt} {p : Addr} {H H' : Hp} (a : Xq p H H') (h : M p) : Grw M H M H' := ⟨fun _ z => .inl z, a.xt h⟩
theorem Xq.upd {p : Addr} {H H' : Hp} {o : HO} (a : Xq p H H') : Xq p H (upd H' p o) := fun b u n e => by
  rw [upd_ne n]
  exact a b u n e
theorem Xq.mok {M : Mt} {p : Addr} {H H' : Hp} {o : HO} (a : Xq p H H') (m : Mok M H) (h : H' p = some o) : Mok M H' := fun b hb z => by
  by_cases e : b = p
  · rw [e, h] at z; cases z
  · cases q : H b with
    | none => exact m b hb q
    | some u => rw [a b u e q] at z; cases z
inductive Oq where
  | nx (ρ : Ev) (ds : List PyData)
  | rt (d : PyData)
def OqOk (M : Mt) (p : Addr) (H : Hp) (Dn : Ends) : Oq → Prop
  | .nx ρ ds => ∀ σ' H' xs', Xq p H H' → EnvR M H' σ' ρ → H' p = some (.lst xs') → DtL M H' xs' ds → Dn.nx σ' H'
  | .rt d => ∀ v H', Xq p H H' → Dt (fun b => M b ∧ b ≠ p) H' v d → Dn.rt v H'
theorem OqOk.xq {M : Mt} {p : Addr} {H H1 : Hp} {Dn : Ends} {o : Oq} (e : Xq p H H1) (h : OqOk M p H Dn o) : OqOk M p H1 Dn o := by
  cases o with
  | nx ρ ds => exact fun σ' H' xs' x r hp hd => h σ' H' xs' (e.trans x) r hp hd
  | rt d => exact fun v H' x r => h v H' (e.trans x) r
/-- the list at p holds ds -/
def DenO (p : Addr) (ρ : Ev) (ds : List PyData) (t : TS) (o : Oq) : Prop := ∀ M σ H xs, Mok M H → M p → EnvR M H σ ρ → H p = some (.lst xs) → DtL M H xs ds → ∀ Dn : Ends, OqOk M p H Dn o → t Dn σ H
theorem EnvR.put {M : Mt} {H : Hp} {σ : L2.St} {ρ : Ev} (h : EnvR M H σ ρ) {o : Option V} {s : Sl} {j : Nat} (hs : σ[j]? = some o) (r : SlR M H o s) : EnvR M H σ (ρ.set j (some s)) := by
  refine ⟨by rw [List.length_set]; exact h.len, fun i s' q => ?_⟩
  by_cases e : j = i
  · subst e
    rw [List.getElem?_set] at q
    by_cases hl : j < ρ.length
    · simp only [hl, if_true, Option.some.injEq] at q
      subst q
      exact ⟨o, hs, r⟩
    · simp [hl] at q
  · rw [List.getElem?_set_ne e] at q
    exact h.at_ i s' q
theorem SlR.less {M M' : Mt} {H : Hp} {o : Option V} {s : Sl} (x : ∀ b, M' b → M b) (h : SlR M H o s) : SlR M' H o s := by
  cases s with
  | d y =>
    obtain ⟨v, a, b⟩ := h
    exact ⟨v, a, b.less x⟩
  | r v => exact h
theorem EnvR.less {M M' : Mt} {H : Hp} {σ : L2.St} {ρ : Ev} (x : ∀ b, M' b → M b) (h : EnvR M H σ ρ) : EnvR M' H σ ρ := ⟨h.len, fun i s q => by
  obtain ⟨o, a, b⟩ := h.at_ i s q
  exact ⟨o, a, b.less x⟩⟩
section
variable {K : PySem.W.Frag} {ρ ρ1 ρ2 : Ev} {te ta tb : TE} {tt : TT} {t u : TS} {d : PyData} {ds ds1 : List PyData} {o : Oq} {p : Addr} {j : Nat}
theorem do_pure (h : DenS t ρ (.nx ρ1)) : DenO p ρ ds t (.nx ρ1 ds) := fun M σ H xs m hm e hp hd Dn q =>
  h M σ H m e _ fun σ' H2 e2 r => q σ' H2 xs (.of e2) r (e2 _ _ hp) (hd.ex e2)
theorem do_seq (h1 : DenO p ρ ds t (.nx ρ1 ds1)) (h2 : DenO p ρ1 ds1 u o) : DenO p ρ ds (tSeq t u) o := fun M σ H xs m hm e hp hd Dn q =>
  h1 M σ H xs m hm e hp hd _ fun σ1 H1 xs1 x1 r1 hp1 hd1 => h2 M σ1 H1 xs1 (x1.mok m hp1) hm r1 hp1 hd1 Dn (q.xq x1)
theorem do_seqR (h1 : DenO p ρ ds t (.rt d)) : DenO p ρ ds (tSeq t u) (.rt d) := fun M σ H xs m hm e hp hd Dn q => h1 M σ H xs m hm e hp hd _ q
theorem do_if {a b : TS} {c : Bool} (h : DenT tt ρ c) (h1 : c = true → DenO p ρ ds a o) (h2 : c = false → DenO p ρ ds b o) : DenO p ρ ds (tIfS tt a b) o := fun M σ H xs m hm e hp hd Dn q =>
  h M σ H m e _ fun H1 e1 => by
    cases c with
    | true => exact iteT (h1 rfl M σ H1 xs (m.ex e1) hm (e.ex e1) (e1 _ _ hp) (hd.ex e1) Dn (q.xq (.of e1)))
    | false => exact iteF (h2 rfl M σ H1 xs (m.ex e1) hm (e.ex e1) (e1 _ _ hp) (hd.ex e1) Dn (q.xq (.of e1)))
theorem do_next : DenO p ρ ds tNext (.nx ρ ds) := do_pure ds_next
theorem do_le (h : DenO p ρ ds t (.nx ρ1 ds1)) (l : LeE ρ1 ρ2) : DenO p ρ ds t (.nx ρ2 ds1) := fun M σ H xs m hm e hp hd Dn q => h M σ H xs m hm e hp hd Dn fun σ' H' xs' x r hp' hd' => q σ' H' xs' x (r.le l) hp' hd'
theorem do_app (hj : ρ[j]? = some (some (.r (.ref p)))) (h : Den te ρ d) (hl : ds.length < 100000) : DenO p ρ ds (tDrop (tBM K "list" rAppend (tVar j) (tCons te tNil))) (.nx ρ (ds ++ [d])) := fun M σ H xs m hm e hp hd Dn q => by
  obtain ⟨o, ho, hr⟩ := e.at_ j _ hj
  obtain rfl : o = some (V.ref p) := hr
  refine ⟨_, ho, .inl ⟨rfl, xs, SqL.of hp⟩, h M σ H m e _ fun v H2 e2 d2 => ?_⟩
  refine ⟨p, xs, v, rfl, rfl, e2 _ _ hp, Evl.sz_lt (by rw [hd.length]; exact hl), ?_⟩
  have x2 : Xq p H (upd H2 p (.lst (xs ++ [v]))) := (Xq.of e2).upd
  exact q σ _ _ x2 (e.xt (x2.xt hm)) upd_same ((hd.xt (x2.xt hm)).app (.one (d2.xt (Xt.upd .refl hm))))
theorem do_for {wi : TI} {g : TG} {es : List PyData} {js : List Nat} (I : Nat → Ev) (X : Nat → List PyData) (hi : DenI wi (I 0) es) (hb : ∀ (i : Nat) d, es[i]? = some d → ∃ ρ1, DenG g d (I i) ρ1 js ∧ DenO p ρ1 (X i) t (.nx (I (i + 1)) (X (i + 1)))) :
    DenO p (I 0) (X 0) (tFor wi g t) (.nx (I es.length) (X es.length)) := fun M σ H xs m hm e hp hd Dn q => by
  refine hi M σ H m e _ fun J H1 e1 hJ => ?_
  refine ⟨fun i m' σ' H' => i + m' = es.length ∧ Xq p H1 H' ∧ EnvR M H' σ' (I i) ∧ ∃ xs, H' p = some (.lst xs) ∧ DtL M H' xs (X i), ⟨es.length, by omega, .refl, e.ex e1, xs, e1 _ _ hp, hd.ex e1⟩, ?_⟩
  rintro i m' σ' H2 ⟨hm', x2, r2, xs2, hp2, hd2⟩
  obtain ⟨go, st⟩ := hJ M H2 (x2.grw hm)
  have mk := x2.mok (m.ex e1) hp2
  by_cases hi' : i < es.length
  · obtain ⟨d, hdi⟩ : ∃ d, es[i]? = some d := ⟨es[i], List.getElem?_eq_getElem hi'⟩
    obtain ⟨gg, yl⟩ := go i d hdi
    obtain ⟨ρ1, hg, hs⟩ := hb i d hdi
    refine .inr ⟨gg, fun σ' H' => Xq p H1 H' ∧ EnvR M H' σ' (I (i + 1)) ∧ ∃ xs, H' p = some (.lst xs) ∧ DtL M H' xs (X (i + 1)), fun σ' H' hN => ⟨m' - 1, by omega, by omega, hN⟩, fun x H3 hx => ?_⟩
    obtain ⟨ex3, dx⟩ := yl x H3 hx
    refine hg M σ' H3 x (mk.ex ex3) (r2.ex ex3) dx _ fun σ3 _ e3 => ?_
    exact hs M σ3 H3 xs2 (mk.ex ex3) hm e3 (ex3 _ _ hp2) (hd2.ex ex3) _ fun σ4 H4 xs4 x4 r4 hp4 hd4 => ⟨x2.trans ((Xq.of ex3).trans x4), r4, xs4, hp4, hd4⟩
  · have ei : i = es.length := by omega
    subst ei
    exact .inl ⟨st, q σ' H2 xs2 ((Xq.of e1).trans x2) r2 hp2 hd2⟩
/-- the turn n returns -/
theorem do_forR {wi : TI} {g : TG} {es : List PyData} {js : List Nat} (n : Nat) (I : Nat → Ev) (X : Nat → List PyData) (hi : DenI wi (I 0) es) (hn : n < es.length)
    (hb : ∀ (i : Nat) d, i < n → es[i]? = some d → ∃ ρ1, DenG g d (I i) ρ1 js ∧ DenO p ρ1 (X i) t (.nx (I (i + 1)) (X (i + 1)))) (he : ∀ d, es[n]? = some d → ∃ ρ1, DenG g d (I n) ρ1 js ∧ DenO p ρ1 (X n) t (.rt z)) :
    DenO p (I 0) (X 0) (tFor wi g t) (.rt z) := fun M σ H xs m hm e hp hd Dn q => by
  refine hi M σ H m e _ fun J H1 e1 hJ => ?_
  refine ⟨fun i m' σ' H' => i + m' = es.length ∧ i ≤ n ∧ Xq p H1 H' ∧ EnvR M H' σ' (I i) ∧ ∃ xs, H' p = some (.lst xs) ∧ DtL M H' xs (X i), ⟨es.length, by omega, by omega, .refl, e.ex e1, xs, e1 _ _ hp, hd.ex e1⟩, ?_⟩
  rintro i m' σ' H2 ⟨hm', hin, x2, r2, xs2, hp2, hd2⟩
  obtain ⟨go, st⟩ := hJ M H2 (x2.grw hm)
  have mk := x2.mok (m.ex e1) hp2
  have hi' : i < es.length := by omega
  obtain ⟨d, hdi⟩ : ∃ d, es[i]? = some d := ⟨es[i], List.getElem?_eq_getElem hi'⟩
  obtain ⟨gg, yl⟩ := go i d hdi
  refine .inr ⟨gg, fun σ' H' => i < n ∧ Xq p H1 H' ∧ EnvR M H' σ' (I (i + 1)) ∧ ∃ xs, H' p = some (.lst xs) ∧ DtL M H' xs (X (i + 1)), fun σ' H' hN => ⟨m' - 1, by omega, by omega, hN.1, hN.2⟩, fun x H3 hx => ?_⟩
  obtain ⟨ex3, dx⟩ := yl x H3 hx
  by_cases hin' : i < n
  · obtain ⟨ρ1, hg, hs⟩ := hb i d hin' hdi
    refine hg M σ' H3 x (mk.ex ex3) (r2.ex ex3) dx _ fun σ3 _ e3 => ?_
    exact hs M σ3 H3 xs2 (mk.ex ex3) hm e3 (ex3 _ _ hp2) (hd2.ex ex3) _ fun σ4 H4 xs4 x4 r4 hp4 hd4 => ⟨hin', x2.trans ((Xq.of ex3).trans x4), r4, xs4, hp4, hd4⟩
  · have ei : i = n := by omega
    subst ei
    obtain ⟨ρ1, hg, hs⟩ := he d hdi
    refine hg M σ' H3 x (mk.ex ex3) (r2.ex ex3) dx _ fun σ3 _ e3 => ?_
    exact hs M σ3 H3 xs2 (mk.ex ex3) hm e3 (ex3 _ _ hp2) (hd2.ex ex3) _ fun v H4 x4 r4 => q v H4 ((Xq.of e1).trans (x2.trans ((Xq.of ex3).trans x4))) r4
/-- from here the list stands as data -/
theorem do_freeze (hj : ρ[j]? = some (some (.r (.ref p)))) (h : DenS t (ρ.set j (some (.d (.list ds)))) (.rt d)) : DenO p ρ ds t (.rt d) := fun M σ H xs m hm e hp hd Dn q => by
  obtain ⟨o, ho, hr⟩ := e.at_ j _ hj
  obtain rfl : o = some (V.ref p) := hr
  have ls : ∀ b, (M b ∧ b ≠ p) → M b := fun b h => h.1
  refine h (fun b => M b ∧ b ≠ p) σ H (fun b hb => m b hb.1) ((e.less ls).put ho ⟨_, rfl, .lst (fun z => z.2 rfl) hp (hd.less ls)⟩) Dn fun v H2 e2 d2 => q v H2 (.of e2) d2
/-- a return that does not look at it -/
theorem do_ret (h : Den te ρ d) (hM : ∀ M H v, Dt M H v d → Dt (fun b => M b ∧ b ≠ p) H v d) : DenO p ρ ds (tRet te) (.rt d) := fun M σ H xs m hm e hp hd Dn q => h M σ H m e _ fun v H1 e1 d1 => q v H1 (.of e1) (hM _ _ _ d1)
/-- x = [] -/
theorem do_own (h : ∀ p, DenO p (ρ.set j (some (.r (.ref p)))) [] t (.rt d)) : DenS (tSeq (tAsg (tLst tNil) (gName j)) t) ρ (.rt d) := fun M σ H m e Dn q => by
  refine ⟨Nat.zero_le _, fun p hp => ?_⟩
  have nM := m.new hp
  have g := grw_new (M := M) hp (Ex.new (o := .lst []) hp)
  refine h p (fun b => M b ∨ b = p) (σ.set j (some (.ref p))) (upd H p (.lst [])) [] (mok_new m (Ex.new hp) upd_same) (.inr rfl) ((e.grw g).set (s := .r (.ref p)) j rfl) upd_same .nil Dn fun v H' x r => ?_
  refine q v H' (fun b o hb => ?_) (r.less fun b hb => ⟨.inl hb, fun z => nM (z ▸ hb)⟩)
  have hne := ne_of_none hb hp
  exact x b o hne (by rw [upd_ne hne]; exact hb)
/-! ### dicts -/
def dk (l : List (Int × Int)) : List (Key × V) := l.map fun p => (Sum.inl p.1, V.int p.2)
def dD (l : List (Int × Int)) : PyData := .dict (l.map fun p => (.int p.1, .int p.2))
theorem dkr_of : ∀ l : List (Int × Int), DkR (dk l) (l.map fun p => (PyData.int p.1, PyData.int p.2))
  | [] => .nil
  | p :: r => .cons ⟨p.1, p.2, rfl, rfl⟩ (dkr_of r)
theorem dkr_eq : ∀ {l : List (Int × Int)} {kvs : List (Key × V)}, DkR kvs (l.map fun p => (PyData.int p.1, PyData.int p.2)) → kvs = dk l
  | [], _, .nil => rfl
  | q :: r, _, .cons ⟨k, v, h1, h2⟩ h => by
    have e1 : q.1 = k := by have := congrArg Prod.fst h2; simpa using this
    have e2 : q.2 = v := by have := congrArg Prod.snd h2; simpa using this
    rw [dkr_eq h, h1, ← e1, ← e2]
    rfl
theorem dt_dict {M : Mt} {H : Hp} {v : V} {l : List (Int × Int)} (h : Dt M H v (dD l)) : ∃ a, v = .ref a ∧ ¬ M a ∧ H a = some (.dK (dk l)) := by
  unfold dD at h
  cases h with
  | dct n h r => exact ⟨_, rfl, n, by rw [h, dkr_eq r]⟩
def getI (l : List (Int × Int)) (k : Int) : Option Int := (l.find? fun p => decide (p.1 = k)).map (·.2)
theorem valV_dk (k : Int) : ∀ l : List (Int × Int), valV (dk l) (Sum.inl k) = (getI l k).map V.int
  | [] => rfl
  | p :: r => by
    by_cases e : p.1 = k
    · have : (Sum.inl p.1 : Key) = Sum.inl k := by rw [e]
      rw [show dk (p :: r) = (Sum.inl p.1, V.int p.2) :: dk r from rfl, valV_pos this]
      unfold getI
      rw [List.find?_cons_of_pos (by simp [e])]
      rfl
    · have : ¬ (Sum.inl p.1 : Key) = Sum.inl k := fun z => e (by injection z)
      rw [show dk (p :: r) = (Sum.inl p.1, V.int p.2) :: dk r from rfl, valV_neg this, valV_dk k r]
      unfold getI
      rw [List.find?_cons_of_neg (by simp [e])]
theorem dn_dget {l : List (Int × Int)} {k v : Int} (h1 : Den ta ρ (dD l)) (h2 : Den tb ρ (.int k)) (hg : getI l k = some v) : Den (tDGet ta tb) ρ (.int v) := fun M σ H m e Q q =>
  h1 M σ H m e _ fun x H1 e1 d1 => h2 M σ H1 (m.ex e1) (e.ex e1) _ fun y H2 e2 d2 => by
    cases d2
    obtain ⟨a, rfl, n, ha⟩ := dt_dict (d1.ex e2)
    have g := DGet.k (k := Sum.inl k) ha
    rw [valV_dk, hg] at g
    exact ⟨a, _, rfl, g, q _ H2 (e1.trans e2) (.int v)⟩
theorem dn_din {l : List (Int × Int)} {k : Int} (h1 : Den ta ρ (.int k)) (h2 : Den tb ρ (dD l)) : Den (tDIn ta tb) ρ (.bool (getI l k).isSome) := fun M σ H m e Q q =>
  h1 M σ H m e _ fun y H1 e1 d1 => h2 M σ H1 (m.ex e1) (e.ex e1) _ fun x H2 e2 d2 => by
    cases d1
    obtain ⟨a, rfl, n, ha⟩ := dt_dict d2
    have g := DGet.k (k := Sum.inl k) ha
    rw [valV_dk] at g
    refine ⟨a, _, rfl, g, ?_⟩
    have : ((getI l k).map V.int).isSome = (getI l k).isSome := by cases getI l k <;> rfl
    rw [this]
    exact q _ H2 (e1.trans e2) (.bl _)
theorem dn_sortedD {l : List (Int × Int)} (h1 : Den ta ρ (dD l)) (hl : l.length < 64) : Den (tCB (fun xs H Q => ∃ (a : Addr) (kvs : List (Key × V)) (ks : List Int), xs = [.ref a] ∧ Rd H a (.dK kvs) ∧ kvs.map (·.1) = ks.map Sum.inl ∧ ks.length < 64 ∧
      ∀ (ys : List Int) (p : Addr), ys.Perm ks → ys.Pairwise (· ≤ ·) → H p = none → Q (.ref p) (upd H p (.lst (ys.map V.int)))) (tCons ta tNil)) ρ (.list ((srt (l.map (·.1))).map PyData.int)) := fun M σ H m e Q q =>
  h1 M σ H m e _ fun x H1 e1 d1 => by
    obtain ⟨a, rfl, n, ha⟩ := dt_dict d1
    refine ⟨a, dk l, l.map (·.1), rfl, .of ha, by unfold dk; rw [List.map_map, List.map_map]; rfl, by rw [List.length_map]; exact hl, fun ys p hp hu hn => ?_⟩
    have e := srt_is hp hu
    subst e
    exact q _ _ (e1.trans (Ex.new hn)) (.lst ((m.ex e1).new hn) upd_same (.of_ints _))
/-- the dict at p holds l -/
def DenD (p : Addr) (ρ : Ev) (l : List (Int × Int)) (t : TS) (ρ' : Ev) (l' : List (Int × Int)) : Prop := ∀ M σ H, Mok M H → M p → EnvR M H σ ρ → H p = some (.dK (dk l)) → ∀ Dn : Ends, (∀ σ' H', Xq p H H' → EnvR M H' σ' ρ' → H' p = some (.dK (dk l')) → Dn.nx σ' H') → t Dn σ H
variable {l l1 : List (Int × Int)}
theorem dd_put {k v : Int} (hj : ρ[j]? = some (some (.r (.ref p)))) (hk : Den ta ρ (.int k)) (hv : Den te ρ (.int v)) (hn : getI l k = none) (hl : l.length < 100000) : DenD p ρ l (sDPut (tVar j) ta te) ρ (l ++ [(k, v)]) := fun M σ H m hm e hp Dn q => by
  obtain ⟨o, ho, hr⟩ := e.at_ j _ hj
  obtain rfl : o = some (V.ref p) := hr
  refine hv M σ H m e _ fun y H1 e1 d1 => ⟨_, ho, hk M σ H1 (m.ex e1) (e.ex e1) _ fun x H2 e2 d2 => ?_⟩
  cases d1
  cases d2
  have hp2 := (e1.trans e2) _ _ hp
  refine ⟨p, _, rfl, DPut.k (k := Sum.inl k) hp2 (Evl.sz_lt (by unfold dk; rw [List.length_map]; exact hl)), ?_⟩
  have x2 : Xq p H (upd H2 p (.dK (putK (dk l) (Sum.inl k) (V.int v)))) := (Xq.of (e1.trans e2)).upd
  refine q σ _ x2 (e.xt (x2.xt hm)) ?_
  rw [upd_same, putK_new _ (by rw [valV_dk, hn]; rfl)]
  unfold dk
  rw [List.map_append]
  rfl
theorem dd_if {a b : TS} {c : Bool} (h : DenT tt ρ c) (h1 : c = true → DenD p ρ l a ρ1 l1) (h2 : c = false → DenD p ρ l b ρ1 l1) : DenD p ρ l (tIfS tt a b) ρ1 l1 := fun M σ H m hm e hp Dn q =>
  h M σ H m e _ fun H1 e1 => by
    cases c with
    | true => exact iteT (h1 rfl M σ H1 (m.ex e1) hm (e.ex e1) (e1 _ _ hp) Dn fun σ' H' x r hp' => q σ' H' ((Xq.of e1).trans x) r hp')
    | false => exact iteF (h2 rfl M σ H1 (m.ex e1) hm (e.ex e1) (e1 _ _ hp) Dn fun σ' H' x r hp' => q σ' H' ((Xq.of e1).trans x) r hp')
theorem dd_le (h : DenD p ρ l t ρ1 l1) (le : LeE ρ1 ρ2) : DenD p ρ l t ρ2 l1 := fun M σ H m hm e hp Dn q => h M σ H m hm e hp Dn fun σ' H' x r hp' => q σ' H' x (r.le le) hp'
theorem dd_for {wi : TI} {g : TG} {es : List PyData} {js : List Nat} (I : Nat → Ev) (X : Nat → List (Int × Int)) (hi : DenI wi (I 0) es) (hb : ∀ (i : Nat) d, es[i]? = some d → ∃ ρ1, DenG g d (I i) ρ1 js ∧ DenD p ρ1 (X i) t (I (i + 1)) (X (i + 1))) :
    DenD p (I 0) (X 0) (tFor wi g t) (I es.length) (X es.length) := fun M σ H m hm e hp Dn q => by
  refine hi M σ H m e _ fun J H1 e1 hJ => ?_
  refine ⟨fun i m' σ' H' => i + m' = es.length ∧ Xq p H1 H' ∧ EnvR M H' σ' (I i) ∧ H' p = some (.dK (dk (X i))), ⟨es.length, by omega, .refl, e.ex e1, e1 _ _ hp⟩, ?_⟩
  rintro i m' σ' H2 ⟨hm', x2, r2, hp2⟩
  obtain ⟨go, st⟩ := hJ M H2 (x2.grw hm)
  have mk := x2.mok (m.ex e1) hp2
  by_cases hi' : i < es.length
  · obtain ⟨d, hdi⟩ : ∃ d, es[i]? = some d := ⟨es[i], List.getElem?_eq_getElem hi'⟩
    obtain ⟨gg, yl⟩ := go i d hdi
    obtain ⟨ρ1, hg, hs⟩ := hb i d hdi
    refine .inr ⟨gg, fun σ' H' => Xq p H1 H' ∧ EnvR M H' σ' (I (i + 1)) ∧ H' p = some (.dK (dk (X (i + 1)))), fun σ' H' hN => ⟨m' - 1, by omega, by omega, hN⟩, fun x H3 hx => ?_⟩
    obtain ⟨ex3, dx⟩ := yl x H3 hx
    refine hg M σ' H3 x (mk.ex ex3) (r2.ex ex3) dx _ fun σ3 _ e3 => ?_
    exact hs M σ3 H3 (mk.ex ex3) hm e3 (ex3 _ _ hp2) _ fun σ4 H4 x4 r4 hp4 => ⟨x2.trans ((Xq.of ex3).trans x4), r4, hp4⟩
  · have ei : i = es.length := by omega
    subst ei
    exact .inl ⟨st, q σ' H2 ((Xq.of e1).trans x2) r2 hp2⟩
/-- x = {}, then what fills it; behind it stands as data -/
theorem ds_dict (I : Addr → Ev) (h : ∀ p, DenD p (ρ.set j (some (.r (.ref p)))) [] t (I p) l) (hj : ∀ p, (I p)[j]? = some (some (.r (.ref p)))) (hl : ∀ p, LeE ((I p).set j (some (.d (dD l)))) ρ1) : DenS (tSeq (tAsg tDNewK (gName j)) t) ρ (.nx ρ1) := fun M σ H m e Dn q => by
  intro p hp
  have nM := m.new hp
  have g := grw_new (M := M) hp (Ex.new (o := .dK []) hp)
  refine h p (fun b => M b ∨ b = p) (σ.set j (some (.ref p))) (upd H p (.dK [])) (mok_new m (Ex.new hp) upd_same) (.inr rfl) ((e.grw g).set (s := .r (.ref p)) j rfl) upd_same _ fun σ' H' x r hp' => ?_
  obtain ⟨o, ho, hr⟩ := r.at_ j _ (hj p)
  obtain rfl : o = some (V.ref p) := hr
  have ls : ∀ b, M b → M b ∨ b = p := fun b h => .inl h
  refine q σ' H' (fun b o hb => ?_) (((r.less ls).put (s := .d (dD l)) ho ⟨_, rfl, .dct nM hp' (dkr_of l)⟩).le (hl p))
  have hne := ne_of_none hb hp
  exact x b o hne (by rw [upd_ne hne]; exact hb)
end
end Nd
set_option Elab.async false
set_option linter.all false
set_option maxRecDepth 100000
set_option maxHeartbeats 1000000
/-! Tables, as the program has them: letters, first, last, following places, the empty word. -/
namespace Nd
open PySem PySem.Spec PyProof.Rows L2
def dT (l : List Int) : PyData := .tuple (l.map .int)
/-- the ascending tuple of some places, each once -/
def ord (ns : List Int) : List Int := srt (once ns)
theorem mem_ord {ns : List Int} {a : Int} : a ∈ ord ns ↔ a ∈ ns := by
  unfold ord
  rw [(srt_perm _).mem_iff, (once_spec ns).2]
theorem ord_len (ns : List Int) : (ord ns).length = (once ns).length := (srt_perm _).length_eq
theorem ord_nodup (ns : List Int) : (ord ns).Nodup := (srt_perm _).nodup_iff.mpr (once_spec ns).1
theorem ord_up (ns : List Int) : (ord ns).Pairwise (· < ·) := by
  have h1 := srt_up (once ns)
  have h2 : (srt (once ns)).Pairwise (· ≠ ·) := ord_nodup ns
  exact (h1.and h2).imp fun ⟨h, n⟩ => by omega
/-- different places below n are at most n -/
theorem nodup_len : ∀ (n : Nat) (l : List Int), l.Nodup → (∀ a ∈ l, 0 ≤ a ∧ a < n) → l.length ≤ n
  | 0, l, _, h => by
    cases l with
    | nil => exact Nat.le_refl _
    | cons a r => have := h a (by simp); omega
  | n + 1, l, nd, h => by
    have ih := nodup_len n (l.erase (n : Int)) (nd.erase _) (fun a ha => by
      have h1 := (nd.mem_erase_iff).mp ha
      have h2 := h a h1.2
      have h3 := h1.1
      omega)
    by_cases hm : (n : Int) ∈ l
    · rw [List.length_erase_of_mem hm] at ih
      omega
    · rw [List.erase_of_not_mem hm] at ih
      omega
theorem once_bd {n : Nat} {ns : List Int} (h : ∀ a ∈ ns, 0 ≤ a ∧ a < n) : (once ns).length ≤ n := nodup_len n _ (once_spec ns).1 fun a ha => h a (((once_spec ns).2 a).mp ha)
/-- the following places of p -/
def fol (P : List (Int × Int)) (p : Int) : List Int := ord ((P.filter fun q => decide (q.1 = p)).map (·.2))
theorem mem_fol {P : List (Int × Int)} {p b : Int} : b ∈ fol P p ↔ (p, b) ∈ P := by
  unfold fol
  rw [mem_ord, List.mem_map]
  constructor
  · rintro ⟨q, hq, rfl⟩
    rw [List.mem_filter] at hq
    have : q.1 = p := of_decide_eq_true hq.2
    rw [← this]
    exact hq.1
  · intro h
    exact ⟨(p, b), List.mem_filter.mpr ⟨h, decide_eq_true rfl⟩, rfl⟩
def places (n : Nat) : List Int := (List.range n).map fun i : Nat => (i : Int)
/-- what a table holds -/
structure Tb where
  ls : List Nat
  F : List Int
  L : List Int
  W : List (List Int)
  b : Bool
def Tb.enc (t : Tb) : PyData := .tuple [.str (Sx t.ls), dT t.F, dT t.L, .tuple (t.W.map dT), .bool t.b]
structure TbOk (t : Tb) : Prop where
  n : t.ls.length ≤ 10
  w : t.W.length = t.ls.length
  f : t.F.Pairwise (· < ·) ∧ ∀ a ∈ t.F, 0 ≤ a ∧ a < t.ls.length
  l : t.L.Pairwise (· < ·) ∧ ∀ a ∈ t.L, 0 ≤ a ∧ a < t.ls.length
  ws : ∀ r ∈ t.W, r.Pairwise (· < ·) ∧ ∀ a ∈ r, 0 ≤ a ∧ a < t.ls.length
theorem up_nodup {l : List Int} (h : l.Pairwise (· < ·)) : l.Nodup := h.imp fun h => by omega
theorem TbOk.len {t : Tb} (ok : TbOk t) {r : List Int} (h : r.Pairwise (· < ·) ∧ ∀ a ∈ r, 0 ≤ a ∧ a < t.ls.length) : r.length ≤ 10 := Nat.le_trans (nodup_len _ r (up_nodup h.1) h.2) ok.n
/-- the tables of an expression -/
def tab (e : Xp) : Tb := ⟨lt e, ord (ga e 0).1, ord (ga e 0).2.1, (places (lt e).length).map (fol (ga e 0).2.2), em e⟩
theorem tab_ok {e : Xp} (ok : Ok e) : TbOk (tab e) := by
  have g := ga_b e 0 ok.w ok.l
  refine ⟨ok.l, by simp [tab, places], ⟨ord_up _, fun a ha => ?_⟩, ⟨ord_up _, fun a ha => ?_⟩, fun r hr => ?_⟩
  · have := g.fi a (mem_ord.mp ha)
    show 0 ≤ a ∧ a < ((lt e).length : Int)
    omega
  · have := g.li a (mem_ord.mp ha)
    show 0 ≤ a ∧ a < ((lt e).length : Int)
    omega
  · obtain ⟨p, _, rfl⟩ := List.mem_map.mp hr
    refine ⟨ord_up _, fun a ha => ?_⟩
    have := (g.pi _ (mem_fol.mp ha)).2
    show 0 ≤ a ∧ a < ((lt e).length : Int)
    omega
/-- the letter at a place; what follows it -/
def Tb.at_ (t : Tb) (p : Int) : Nat := t.ls.getD p.toNat 0
def Tb.go (t : Tb) (p : Int) : List Int := t.W.getD p.toNat []
theorem atI_in {α : Type} {l : List α} {p : Int} (d : α) (h0 : 0 ≤ p) (h : p < l.length) : atI l p = some (l.getD p.toNat d) := by
  have hp : p = (p.toNat : Int) := by omega
  have hl : p.toNat < l.length := by omega
  rw [hp, Int.toNat_natCast]
  refine atI_nat ?_
  rw [List.getD_eq_getElem?_getD, List.getElem?_eq_getElem hl]
  rfl
theorem atI_map {α β : Type} {l : List α} {f : α → β} {p : Int} {x : α} (h : atI l p = some x) : atI (l.map f) p = some (f x) := by
  unfold atI at h ⊢
  rw [List.length_map]
  cases e : ixN l.length p with
  | none => rw [e] at h; cases h
  | some j =>
    rw [e] at h
    have h : l[j]? = some x := h
    show (l.map f)[j]? = _
    rw [List.getElem?_map, h]
    rfl
theorem go_mem {t : Tb} (ok : TbOk t) {p : Int} (h0 : 0 ≤ p) (h : p < t.ls.length) : t.go p ∈ t.W := by
  unfold Tb.go
  have hl : p.toNat < t.W.length := by rw [ok.w]; omega
  rw [List.getD_eq_getElem?_getD, List.getElem?_eq_getElem hl]
  exact List.getElem_mem hl
/-- the pairs of places with the same letter -/
def prs (t : Tb) (F : List Int) : List (Int × Int) := F.flatMap fun a => (F.filter fun b => decide (a < b) && decide (t.at_ a = t.at_ b)).map fun b => (a, b)
/-- a row of the tables, in bounds -/
def ROk (t : Tb) (r : List Int) : Prop := r.Pairwise (· < ·) ∧ ∀ a ∈ r, 0 ≤ a ∧ a < t.ls.length
theorem ROk.len {t : Tb} (ok : TbOk t) {r : List Int} (h : ROk t r) : r.length ≤ 10 := ok.len h
/-- the places with a letter behind some, of the first ones for none -/
def nxt (t : Tb) (h : Option (List Int)) (c : Nat) : List Int := (match h with
  | none => t.F
  | some l => ord (l.flatMap t.go)).filter fun p => decide (t.at_ p = c)
def hD (h : Option (List Int)) : PyData := match h with
  | none => .none
  | some l => dT l
theorem nxt_ok {t : Tb} (ok : TbOk t) {h : Option (List Int)} (hh : ∀ l, h = some l → ∀ a ∈ l, 0 ≤ a ∧ a < t.ls.length) (c : Nat) : ROk t (nxt t h c) := by
  unfold nxt
  refine ⟨List.Pairwise.filter _ ?_, fun a ha => ?_⟩
  · cases h with
    | none => exact ok.f.1
    | some l => exact ord_up _
  · have ha := (List.mem_filter.mp ha).1
    cases h with
    | none => exact ok.f.2 a ha
    | some l =>
      rw [mem_ord] at ha
      obtain ⟨b, hb, hab⟩ := List.mem_flatMap.mp ha
      have := hh l rfl b hb
      exact (ok.ws _ (go_mem ok this.1 this.2)).2 a hab
/-- the candidates of a word, letter by letter -/
def rw (t : Tb) : Option (List Int) → List Nat → List (List Int)
  | _, [] => []
  | h, c :: w => nxt t h c :: rw t (some (nxt t h c)) w
theorem rw_len (t : Tb) : ∀ (h : Option (List Int)) (w : List Nat), (rw t h w).length = w.length
  | _, [] => rfl
  | h, c :: w => by rw [rw, List.length_cons, rw_len t _ w, List.length_cons]
/-- what stands ahead of the i-th letter -/
def stt (t : Tb) (h : Option (List Int)) (w : List Nat) : Nat → Option (List Int)
  | 0 => h
  | i + 1 => (rw t h w)[i]?
theorem rw_get (t : Tb) : ∀ (w : List Nat) (h : Option (List Int)) (i : Nat) (c : Nat), w[i]? = some c → (rw t h w)[i]? = some (nxt t (stt t h w i) c)
  | [], _, _, _, q => by simp at q
  | a :: w, h, 0, c, q => by
    simp only [List.getElem?_cons_zero, Option.some.injEq] at q
    subst q
    rfl
  | a :: w, h, i + 1, c, q => by
    rw [List.getElem?_cons_succ] at q
    have ih := rw_get t w (some (nxt t h a)) i c q
    show (nxt t h a :: rw t (some (nxt t h a)) w)[i + 1]? = _
    rw [List.getElem?_cons_succ, ih]
    cases i with
    | zero => rfl
    | succ i => rfl
section
variable {K : PySem.W.Frag} {ρ : Ev} {ta tb te : TE} {t : Tb}
/-- letters[place] -/
theorem dn_let {p : Int} (ok : TbOk t) (h1 : Den ta ρ (.str (Sx t.ls))) (h2 : Den tb ρ (.int p)) (h0 : 0 ≤ p) (h : p < t.ls.length) : Den (tOp rIxS ta tb) ρ (.str (Sx [t.at_ p])) := by
  have e := atI_in 0 h0 h
  exact dn_op h1 h2 (rd_ixS (by rw [len_Sx]; have := ok.n; omega) e)
/-- follow[place] -/
theorem dn_go {p : Int} (ok : TbOk t) (h1 : Den ta ρ (.tuple (t.W.map dT))) (h2 : Den tb ρ (.int p)) (h0 : 0 ≤ p) (h : p < t.ls.length) : Den (tOp (rIxT K) ta tb) ρ (dT (t.go p)) :=
  dn_op h1 h2 (rd_ixT (atI_map (atI_in [] h0 (by rw [ok.w]; exact h))))
theorem dn_t0 (h : Den ta ρ t.enc) : Den (tOp (rIxT K) ta (tC (.int 0))) ρ (.str (Sx t.ls)) := dn_ixT h rfl
theorem dn_t1 (h : Den ta ρ t.enc) : Den (tOp (rIxT K) ta (tC (.int 1))) ρ (dT t.F) := dn_ixT h rfl
theorem dn_t2 (h : Den ta ρ t.enc) : Den (tOp (rIxT K) ta (tC (.int 2))) ρ (dT t.L) := dn_ixT h rfl
theorem dn_t3 (h : Den ta ρ t.enc) : Den (tOp (rIxT K) ta (tC (.int 3))) ρ (.tuple (t.W.map dT)) := dn_ixT h rfl
theorem dn_t4 (h : Den ta ρ t.enc) : Den (tOp (rIxT K) ta (tC (.int 4))) ρ (.bool t.b) := dn_ixT h rfl
/-- letters[a] == letters[b] -/
theorem rd_eqL {a b : Nat} : R2D rEq (.str (Sx [a])) (.str (Sx [b])) (.bool (decide (a = b))) := by
  have h := rd_eqS (i := Sx [a]) (j := Sx [b])
  have e : decide (Sx [a] = Sx [b]) = decide (a = b) := by
    rw [decide_eq_decide]
    exact ⟨fun z => by have := SX.S_inj z; simpa using this, fun z => by rw [z]⟩
  rw [e] at h
  exact h
end
end Nd
set_option Elab.async false
set_option linter.all false
set_option maxRecDepth 100000
set_option maxHeartbeats 1000000
/-! The law's own tables: the same places as the program's. -/
namespace Nd
open PySem PySem.Spec PyProof.Rows L2
structure LG where
  F : List Int
  L : List Int
  P : List (Int × Int)
  b : Bool
def rg (k : Int) (n : Nat) : List Int := (List.range n).map fun i : Nat => k + (i : Int)
def addN (f : List Int) (P : List (Int × Int)) (a : Int) : List (Int × Int) := P ++ ((f.filter fun b => !decide ((a, b) ∈ P)).map fun b => (a, b))
def lst1 (j : Bool) (s : LG × Int) (g : LG) (n : Nat) : LG × Int :=
  if j then (⟨if s.1.b then s.1.F ++ g.F else s.1.F, if g.b then s.1.L ++ g.L else g.L, s.1.P ++ g.P ++ cross s.1.L g.F, s.1.b && g.b⟩, s.2 + n) else (⟨s.1.F ++ g.F, s.1.L ++ g.L, s.1.P ++ g.P, s.1.b || g.b⟩, s.2 + n)
mutual
def lga : Xp → Int → LG
  | .leaf l, k => ⟨rg k l.length, rg k l.length, [], l.isEmpty⟩
  | .one m e, k => ⟨(lga e k).F, (lga e k).L, if m then (lga e k).L.foldl (addN (lga e k).F) (lga e k).P else (lga e k).P, true⟩
  | .row j ps, k => (lgaL j ps (⟨[], [], [], j⟩, k)).1
def lgaL (j : Bool) : List Xp → LG × Int → LG × Int
  | [], s => s
  | e :: r, s => lgaL j r (lst1 j s (lga e s.2) (lt e).length)
end
theorem lgaL_snoc (j : Bool) (e : Xp) : ∀ (l : List Xp) (s : LG × Int), lgaL j (l ++ [e]) s = lst1 j (lgaL j l s) (lga e (lgaL j l s).2) (lt e).length
  | [], s => rfl
  | a :: l, s => by
    show lgaL j (l ++ [e]) _ = _
    rw [lgaL_snoc j e l]
    rfl
theorem mem_addN {f : List Int} {P : List (Int × Int)} {a : Int} {q : Int × Int} : q ∈ addN f P a ↔ q ∈ P ∨ (q.1 = a ∧ q.2 ∈ f) := by
  unfold addN
  rw [List.mem_append, List.mem_map]
  constructor
  · rintro (h | ⟨b, hb, rfl⟩)
    · exact .inl h
    · exact .inr ⟨rfl, (List.mem_filter.mp hb).1⟩
  · rintro (h | ⟨h1, h2⟩)
    · exact .inl h
    · by_cases c : q ∈ P
      · exact .inl c
      · refine .inr ⟨q.2, List.mem_filter.mpr ⟨h2, ?_⟩, by rw [← h1]⟩
        rw [← h1]
        simpa using c
theorem mem_addF {f : List Int} {q : Int × Int} : ∀ (L : List Int) (P : List (Int × Int)), q ∈ L.foldl (addN f) P ↔ q ∈ P ∨ (q.1 ∈ L ∧ q.2 ∈ f)
  | [], P => by simp
  | a :: L, P => by
    rw [List.foldl_cons, mem_addF L, mem_addN, List.mem_cons]
    constructor
    · rintro ((h | ⟨h1, h2⟩) | ⟨h1, h2⟩)
      · exact .inl h
      · exact .inr ⟨.inl h1, h2⟩
      · exact .inr ⟨.inr h1, h2⟩
    · rintro (h | ⟨h1 | h1, h2⟩)
      · exact .inl (.inl h)
      · exact .inl (.inr ⟨h1, h2⟩)
      · exact .inr ⟨h1, h2⟩
theorem len_addN {f : List Int} {P : List (Int × Int)} {a : Int} : (addN f P a).length ≤ P.length + f.length := by
  unfold addN
  rw [List.length_append, List.length_map]
  have := List.length_filter_le (fun b => !decide ((a, b) ∈ P)) f
  omega
theorem len_addF {f : List Int} : ∀ (L : List Int) (P : List (Int × Int)), (L.foldl (addN f) P).length ≤ P.length + L.length * f.length
  | [], P => by simp
  | a :: L, P => by
    rw [List.foldl_cons]
    have h1 := len_addF (f := f) L (addN f P a)
    have h2 := len_addN (f := f) (P := P) (a := a)
    rw [List.length_cons, Nat.add_mul]
    omega
structure Sim (g : G3) (h : LG) : Prop where
  F : h.F = g.1
  Ll : h.L.length = g.2.1.length
  Lm : ∀ a, a ∈ h.L ↔ a ∈ g.2.1
  Pl : h.P.length ≤ g.2.2.length
  Pm : ∀ q, q ∈ h.P ↔ q ∈ g.2.2
theorem Sim.step {j : Bool} {s : GS} {h : LG} {g : G3} {h' : LG} {n : Nat} {b : Bool} {k : Int} (a : Sim (s.F, s.L, s.P) h) (c : Sim g h') (hb : h'.b = b) (hj : j = true → h.b = s.b) :
    Sim ((gst j s g n b).F, (gst j s g n b).L, (gst j s g n b).P) (lst1 j (h, k) h' n).1 := by
  unfold gst lst1
  have aF := a.F
  have aLl := a.Ll
  have aLm := a.Lm
  have aPl := a.Pl
  have aPm := a.Pm
  have cF := c.F
  have cLl := c.Ll
  have cLm := c.Lm
  have cPl := c.Pl
  have cPm := c.Pm
  simp only at aF aLl aLm aPl aPm
  cases j with
  | true =>
    have hs := hj rfl
    simp only [if_true]
    refine ⟨?_, ?_, fun x => ?_, ?_, fun q => ?_⟩
    · simp only
      rw [hs, aF, cF]
      cases s.b <;> simp
    · simp only
      rw [hb]
      cases b <;> simp <;> omega
    · simp only
      rw [hb]
      cases b
      · simp [cLm]
      · simp only [if_true, List.mem_append, aLm, cLm]
        exact Or.comm
    · simp only [List.length_append, cross_len]
      rw [cF, aLl]
      omega
    · simp only [List.mem_append, mem_cross, aPm, cPm, aLm, cF]
  | false =>
    simp only [Bool.false_eq_true, if_false]
    refine ⟨?_, ?_, fun x => ?_, ?_, fun q => ?_⟩
    · simp only
      rw [aF, cF]
    · simp only [List.length_append]
      omega
    · simp only [List.mem_append, aLm, cLm]
    · simp only [List.length_append]
      omega
    · simp only [List.mem_append, aPm, cPm]
mutual
theorem sim_e : ∀ (e : Xp) (k : Int), wf e = true → Sim (ga e k) (lga e k) ∧ (lga e k).b = em e
  | .leaf l, k, w => by
    have hl : l = [] ∨ ∃ c, l = [c] := by
      rw [wf, Bool.or_eq_true, Bool.and_eq_true] at w
      rcases w with z | ⟨z, _⟩
      · exact .inl (List.isEmpty_iff.mp z)
      · have : l.length = 1 := by simpa using z
        match l, this with
        | [c], _ => exact .inr ⟨c, rfl⟩
    refine ⟨?_, by rw [lga, em]⟩
    rcases hl with rfl | ⟨c, rfl⟩
    · rw [ga, lga]
      exact ⟨rfl, rfl, fun _ => Iff.rfl, Nat.le_refl _, fun _ => Iff.rfl⟩
    · rw [ga, lga]
      refine ⟨?_, rfl, fun a => ?_, Nat.le_refl _, fun _ => Iff.rfl⟩
      · simp [rg]
      · simp [rg]
  | .one m e, k, w => by
    have w' : wf e = true := w
    obtain ⟨s, _⟩ := sim_e e k w'
    refine ⟨?_, by rw [lga, em]⟩
    rw [ga, lga]
    refine ⟨s.F, s.Ll, s.Lm, ?_, fun q => ?_⟩
    · simp only [List.length_append]
      have := s.Pl
      cases m with
      | false => simp; omega
      | true =>
        simp only [if_true, cross_len]
        have h := len_addF (f := (lga e k).F) (lga e k).L (lga e k).P
        rw [s.Ll] at h
        rw [s.F] at h ⊢
        omega
    · simp only [List.mem_append]
      cases m with
      | false => simp [s.Pm]
      | true =>
        simp only [if_true]
        rw [mem_addF, mem_cross, s.Pm, s.Lm, s.F]
  | .row j ps, k, w => by
    rw [wf, Bool.and_eq_true] at w
    obtain ⟨h1, h2⟩ := sim_l j ps ⟨[], [], [], k, true⟩ (⟨[], [], [], j⟩, k) w.2 ⟨rfl, rfl, fun _ => Iff.rfl, Nat.le_refl _, fun _ => Iff.rfl⟩ rfl (fun h => h)
    rw [ga, lga]
    refine ⟨h1, ?_⟩
    rw [h2]
    cases j
    · simp [em]
    · simp [em]
theorem sim_l (j : Bool) : ∀ (ps : List Xp) (s : GS) (h : LG × Int), wf.wfL j ps = true → Sim (s.F, s.L, s.P) h.1 → h.2 = s.at_ → (j = true → h.1.b = s.b) →
    Sim ((gaL j ps s).F, (gaL j ps s).L, (gaL j ps s).P) (lgaL j ps h).1 ∧ (lgaL j ps h).1.b = if j then h.1.b && em.emA ps else h.1.b || em.emO ps
  | [], s, h, _, a, _, _ => ⟨a, by cases j <;> simp [lgaL, em.emA, em.emO]⟩
  | e :: r, s, h, w, a, ha, hj => by
    rw [wf.wfL, Bool.and_eq_true, Bool.and_eq_true] at w
    obtain ⟨se, be⟩ := sim_e e s.at_ w.1
    rw [← ha] at se be
    have st := Sim.step (n := (lt e).length) (k := h.2) a se be hj
    rw [gaL, lgaL]
    have hb2 : j = true → (lst1 j h (lga e h.2) (lt e).length).1.b = (gst j s (ga e s.at_) (lt e).length (em e)).b := fun z => by
      subst z
      unfold lst1 gst
      simp only [if_true]
      rw [hj rfl, be]
    obtain ⟨h1, h2⟩ := sim_l j r (gst j s (ga e s.at_) (lt e).length (em e)) (lst1 j h (lga e h.2) (lt e).length) w.2.2 (by rw [← ha]; exact st) (by
      unfold lst1 gst
      rw [ha]
      cases j <;> rfl) hb2
    refine ⟨h1, ?_⟩
    rw [h2]
    unfold lst1
    cases j
    · simp only [Bool.false_eq_true, if_false, em.emO]
      rw [be, Bool.or_assoc]
    · simp only [if_true, em.emA]
      rw [be, Bool.and_assoc]
end
/-- bounds -/
theorem lga_b {e : Xp} (ok : Ok e) (k : Int) : (lga e k).F.length ≤ 10 ∧ (lga e k).L.length ≤ 10 ∧ (lga e k).P.length ≤ 3000 := by
  have g := ga_b e k ok.w ok.l
  obtain ⟨s, _⟩ := sim_e e k ok.w
  have h1 := g.f
  have h2 := g.l
  have h3 := g.p
  have := ok.l
  have := ok.c
  refine ⟨by rw [s.F]; omega, by rw [s.Ll]; omega, ?_⟩
  have := s.Pl
  omega
theorem lgaS_b {j : Bool} {ps : List Xp} (ok : Ok (.row j ps)) (k : Int) (i : Nat) : ((lgaL j (ps.take i) (⟨[], [], [], j⟩, k)).1.F.length ≤ 10 ∧ (lgaL j (ps.take i) (⟨[], [], [], j⟩, k)).1.L.length ≤ 10 ∧ (lgaL j (ps.take i) (⟨[], [], [], j⟩, k)).1.P.length ≤ 3000) ∧ (lgaL j (ps.take i) (⟨[], [], [], j⟩, k)).2 = k + (lt.ltL (ps.take i)).length ∧ (lt.ltL (ps.take i)).length ≤ 10 := by
  obtain ⟨g, hl, hc⟩ := gaS_b ok k i
  have w := ok.w
  rw [wf, Bool.and_eq_true] at w
  have w2 : wf.wfL j (ps.take i) = true := by
    have := w.2
    rw [← List.take_append_drop i ps] at this
    exact wfL_app this
  obtain ⟨s, _⟩ := sim_l j (ps.take i) ⟨[], [], [], k, true⟩ (⟨[], [], [], j⟩, k) w2 ⟨rfl, rfl, fun _ => Iff.rfl, Nat.le_refl _, fun _ => Iff.rfl⟩ rfl (fun h => h)
  have h1 := g.f
  have h2 := g.l
  have h3 := g.p
  have at_ : ∀ (l : List Xp) (s : LG × Int), (lgaL j l s).2 = s.2 + (lt.ltL l).length := by
    intro l
    induction l with
    | nil => intro s; simp [lgaL, lt.ltL]
    | cons e r ih =>
      intro s
      rw [lgaL, ih, lt.ltL, List.length_append]
      unfold lst1
      cases j <;> simp <;> omega
  refine ⟨⟨by rw [s.F]; simp only; omega, by rw [s.Ll]; simp only; omega, ?_⟩, at_ _ _, hl⟩
  have := s.Pl
  simp only at this
  omega
end Nd
set_option Elab.async false
set_option linter.all false
set_option maxRecDepth 100000
set_option maxHeartbeats 1000000
/-! {pair: True for pair in pairs} and its sorted keys; list(d.values()). -/
namespace Nd
open PySem PySem.Spec PyProof.Rows L2
open Evl (Ex Ex.refl Ex.trans Ex.new)
theorem iteF_inv {p q : Prop} (h : if false = true then p else q) : q := by simpa using h
theorem iteT_inv {p q : Prop} (h : if true = true then p else q) : p := by simpa using h
section
variable {X : Cx}
/-- a dict comprehension whose keys are tuples of ints and texts; D: the new dict -/
def tDcT (wi : TI) (g : TG) (tt : TT) (tk tv : TE) (vs : List Nat) : TE := fun σ H Q => wi σ H fun J H1 => ∀ D, H1 D = none → ∃ W : Nat → Nat → Hp → Prop, (∃ m, W 0 m (upd H1 D (.dT []))) ∧ ∀ i m H, W i m H →
  (J.stop i H ∧ Q (.ref D) H) ∨ (J.go i H ∧ ∃ Nx : Hp → Prop, (∀ H', Nx H' → ∃ m', m' < m ∧ W (i + 1) m' H') ∧ ∀ x H', J.yld i H x H' → g x (wipe σ vs) H' fun σ2 H2 => wipe σ2 vs = wipe σ vs ∧ tt σ2 H2 fun b H3 =>
    if b = true then tk σ2 H3 fun y H4 => tv σ2 H4 fun z H5 => ∃ (kvs : List (List Key × V)) (k : List Key) (c : Addr), y = .ref c ∧ H5 c = some (.tup (k.map kV)) ∧ H5 D = some (.dT kvs) ∧ kvs.length < sizeLine ∧ Nx (upd H5 D (.dT (putK kvs k z))) else Nx H3)
/-- the store into such a dict -/
theorem putT {pins : List (Addr × Obj)} {σ : L2.St} {H : Hp} {s : Shared} {E : Value → Shared → Prop} {D c : Addr} {kvs : List (List Key × V)} {k : List Key} {v : V} {r : Value} {Q : Unit → Shared → Prop} (hu : X.A.units + 1 < cLine) (I : Inv X pins σ H s) (hD : H D = some (.dT kvs))
    (hz : kvs.length < sizeLine) (hc : H c = some (.tup (k.map kV))) (rv : RelV v r) (h : ∀ s', Inv X pins σ (upd H D (.dT (putK kvs k v))) s' → Q () s') : wpAny (model X.prog X.w) X.A (dictSet D (.ref c) r) Q E s := by
  obtain ⟨sz, low, xs, rel, dict⟩ := dt_of I.hok hD
  have hsz : xs.length ≤ sizeLine := by rw [← Paired.length rel]; exact sz
  have hnew : (putK kvs k v).length ≤ sizeLine := by have := length_putK kvs k v; omega
  refine wpAny_dictSet_heap (hsz := hsz) (show X.A.units < cLine by omega) (key_of I.hok hc) dict fun h' after same => h _ ?_
  obtain ⟨q, es, ep, hq, a2, a3, a4, _, a5⟩ := after
  refine d_write I (by rw [hD]; exact True.intro) same ⟨q, hq⟩ ⟨hnew, low, _, (rel.put k hc rv).keeps fun b ys hb => ?_, q, es, ep, hq, a2, a3, a4, a5⟩
  have ne : b ≠ D := fun z => by rw [z, hD] at hb; cases hb
  rw [upd_ne ne]
  exact hb
/-- {k: v for x in it if ..} with keys that are tuples -/
theorem pe_dcT {kx vx tg src : Expr} {ifs : List Expr} {sc : Scope} {own : List (Str × Nat)} {pos : Pos} {wi : TI} {g : TG} {tt : TT} {tk tv : TE} (hu : X.A.units + 1 < cLine) (calm : X.calm = true) (nd : X.N.Nodup) (pi : PI X tg src wi) (ok : BlkOk X.N X.env.scope sc own)
    (bg : ∀ (t : Shared) (G : Hp) (B : Addr) (cl : List (Str × Addr)) (fp : List Addr), PG (X.blk t G sc (compEnvC sc cl B X.env) fp) tg g)
    (bt : ∀ (t : Shared) (G : Hp) (B : Addr) (cl : List (Str × Addr)) (fp : List Addr), PTs (X.blk t G sc (compEnvC sc cl B X.env) fp) ifs tt)
    (bk : ∀ (t : Shared) (G : Hp) (B : Addr) (cl : List (Str × Addr)) (fp : List Addr), PE (X.blk t G sc (compEnvC sc cl B X.env) fp) kx tk)
    (bv : ∀ (t : Shared) (G : Hp) (B : Addr) (cl : List (Str × Addr)) (fp : List Addr), PE (X.blk t G sc (compEnvC sc cl B X.env) fp) vx tv)
    (plain : ∀ x, foldedSetIterable src X.env x = pure x := by intro _; rfl) : PE X (.DictComp kx vx [⟨tg, src, ifs, 0⟩] sc pos) (tDcT wi g tt tk tv (own.map (·.2))) := by
  refine ⟨fun pins s0 σ H0 Q I0 need => ?_⟩
  rw [arm_eval_DictComp]
  have clos : ∀ y ∈ sc.names, y.2 = .free → ∃ c, X.env.cells.lookup y.1 = some c := fun y hy e => (ok.free y hy e).elim (fun k => I0.ok.has _ (.inl k)) fun k => I0.ok.has _ (.inr k)
  refine wpAny_comprehension_free rfl plain (closure_ok clos) ok.kind (fun y hy e => by rw [ok.uniq y hy, e]) (thn (pi.run pins s0 σ H0 _ I0 need) fun _ s1 got => thn got fun _ s2 ready => ?_)
  obtain ⟨it, fp, tn, J, H2, rfl, I2, T, at0, fp0, more⟩ := ready
  refine wpAny_newObj_type (newEnv_comp ?_)
  generalize eD : s2.heap.objs.size = D
  have freshD : H2 D = none := I2.hok.fresh (Nat.le_of_eq eD)
  obtain ⟨W, ⟨m0, start⟩, turn⟩ := more D freshD
  generalize e3 : ({ s2 with heap := s2.heap.push { cls := .type "dict", data := .dict #[] } } : Shared) = s3
  have h3 : s3.heap = s2.heap.push { cls := .type "dict", data := .dict #[] } := by rw [← e3]
  have I3 : Inv X pins σ (upd H2 D (.dT [])) s3 := by
    subst e3 eD
    exact I2.laid (t' := s2.toks) (fun b o e => Heap.get?_push_of_some _ e) (Nat.le_refl _) (dt_empty s2.heap I2.big)
  have low : ∀ b ∈ fp, b < s2.heap.objs.size := fun b hb => (T.obj _ _ at0 b hb).elim fun o z => Heap.lt_size z.1
  have fp3 : ∀ b ∈ fp, FpOk X pins (upd H2 D (.dT [])) b ∧ b < s3.heap.objs.size := fun b hb => by
    have l := low b hb
    have ne : b ≠ D := by rw [← eD]; exact Nat.ne_of_lt l
    refine ⟨⟨?_, (fp0 b hb).2⟩, ?_⟩
    · rw [upd_ne ne]; exact (fp0 b hb).1
    · rw [h3, Heap.size_push]; exact Nat.lt_succ_of_lt l
  have at3 : tn 0 s3.heap := T.keep _ _ _ at0 fun b _ o e => by rw [h3]; exact Heap.get?_push_of_some _ e
  have I4 := block_start I3 ok nd fp3
  generalize eB : s3.heap.objs.size = B at I4
  generalize eC : cellsFrom (B + 1) sc.names (cloFrom X.env.cells sc.names []) = cl at I4
  have g0 := bg s3 (upd H2 D (.dT [])) B cl fp
  have t0 := bt s3 (upd H2 D (.dT [])) B cl fp
  have k0 := bk s3 (upd H2 D (.dT [])) B cl fp
  have v0 := bv s3 (upd H2 D (.dT [])) B cl fp
  have clear : ∀ b ∈ fp, (upd H2 D (.dT [])) b = none := fun b hb => (fp3 b hb).1.1
  generalize ece : compEnvC sc cl B X.env = ce at I4 g0 t0 k0 v0
  have locB : ce.locals = B := by subst ece; rfl
  generalize eH : upd H2 D (.dT []) = H3 at I3 I4 g0 t0 k0 v0 start clear fp3
  generalize e4 : ({ s3 with heap := pushCells (s3.heap.push { cls := .type "dict", data := .dict #[] }) sc.names } : Shared) = s4 at I4
  have at4 : tn 0 s4.heap := T.keep _ _ _ at3 fun b _ o e => by rw [← e4]; exact pushCells_keeps _ _ _ _ (Heap.get?_push_of_some _ e)
  suffices goal : codeAny (model X.prog X.w) X.A (.compStart (.DictComp kx vx [⟨tg, src, ifs, 0⟩] sc pos) 0 (.ref it) (.ref D) ce) (compPost (model X.prog X.w) X.A X.xe none (EP X pins σ Q) (.ref D) B) s4 by
    subst e4
    subst ece
    subst eC
    subst eB
    subst e3
    exact goal
  have kept : ∀ {τ : L2.St} {G : Hp} {t : Shared}, Inv (X.blk s3 H3 sc ce fp) [] τ G t → (∀ b ∈ fp, G b = none) → ∀ b ∈ fp, FpOk (X.blk s3 H3 sc ce fp) [] G b := fun {τ G t} iv none b hb => by
    have a := iv.ok.exf b hb
    exact ⟨none b hb, a.1, iv.ok.exfs b hb, .inl hb, fun x c e => a.2 x c e, fun p hp => by simp at hp⟩
  suffices loop : codeAny (model X.prog X.w) X.A (.compLoop (.DictComp kx vx [⟨tg, src, ifs, 0⟩] sc pos) 0 (.ref it) (.ref D) ce) (compPost (model X.prog X.w) X.A X.xe none (EP X pins σ Q) (.ref D) B) s4 from codeAny_compStart_dict loop (T.self X.A 0 _ _ _ at4 loop)
  refine compLoop_anyD (fun n t => ∃ i G, Inv (X.blk s3 H3 sc ce fp) [] (wipe σ (own.map (·.2))) G t ∧ tn i t.heap ∧ (∀ b ∈ fp, G b = none) ∧ W i n G) ?_ m0 ⟨0, H3, I4, at4, clear, start⟩
  rintro n s5 ⟨i, H5, I5, at5, n5, w5⟩
  rcases turn i n H5 w5 with ⟨stop, last⟩ | ⟨go, Nx, next, step⟩
  · refine thnF (T.done (X.blk s3 H3 sc ce fp) rfl rfl rfl calm i [] s5 _ H5 (fun _ _ => False) I5 (kept I5 n5) at5 stop) fun r s6 ⟨isn, I6⟩ => ?_
    subst isn
    have I7 : Inv X pins σ H5 s6 := I3.call' (ch := fp) I6.os I6.base I6.hok I6.bare fun b hb => by
      obtain ⟨⟨_, a, b, c, d, e⟩, _⟩ := fp3 b hb
      exact ⟨c, a, d, e⟩
    have freeB : H5 B = none := by
      have z : H5 ce.locals = none := I6.free
      rwa [locB] at z
    obtain ⟨m, names, _⟩ := I6.loc
    have names : s6.heap.Ns ce.locals m := names
    rw [locB] at names
    refine ⟨m, names, fun h'' same => ?_⟩
    obtain ⟨a0, a1, a2, a3, a4, a5⟩ := I3.fpOk (Nat.le_of_eq eB) freeB
    exact ⟨.ref D, H5, I7.turned (t' := s6.toks) (fun b o hb e => (same.2 b hb).trans e) a0 a1 a3 a4 a5, rfl, last⟩
  · refine thnF (T.item (X.blk s3 H3 sc ce fp) rfl rfl rfl calm i [] s5 _ H5 (fun _ _ => False) I5 (kept I5 n5) at5 go) fun r s6 ⟨u, isu, h6⟩ => ?_
    subst isu
    refine thnF h6 fun _ s7 ⟨x, H7, I7, rx, y7, at7, n7⟩ => ?_
    refine thnF (g0.run _ s7 _ H7 x u _ (I7.pinned (kept I7 n7) (T.obj _ _ at7)) rx (step x H7 y7)) fun _ s8 ⟨τ, H8, I8, same8, q8⟩ => ?_
    refine thnF (t0.run _ s8 τ H8 _ I8 q8) fun b s9 ⟨H9, I9, q9⟩ => ?_
    have close : ∀ {t : Shared} {G : Hp}, Inv (X.blk s3 H3 sc ce fp) ([] ++ pinsAt fp s7.heap) τ G t → Nx G → ∃ m, m < n ∧ ∃ i G, Inv (X.blk s3 H3 sc ce fp) [] (wipe σ (own.map (·.2))) G t ∧ tn i t.heap ∧ (∀ b ∈ fp, G b = none) ∧ W i m G := fun {t G} iv nx => by
      obtain ⟨m, lt, w⟩ := next G nx
      have pinned : ∀ b ∈ fp, ∀ o, s7.heap.get? b = some o → t.heap.get? b = some o ∧ G b = none := fun b hb o e => by
        obtain ⟨p1, p2, _⟩ := iv.pin (b, o) (List.mem_append_right _ (List.mem_append_right _ (mem_pinsAt hb e)))
        exact ⟨p1, p2⟩
      refine ⟨m, lt, i + 1, G, (iv.unpinned (pins := [])).weak (by rw [← same8, wipe_length]) (fun j v e => ?_), T.keep _ _ _ at7 fun b hb o e => (pinned b hb o e).1, fun b hb => ?_, w⟩
      · rw [← same8] at e
        exact (wipe_some e).1
      · obtain ⟨o, e, _⟩ := T.obj _ _ at7 b hb
        exact (pinned b hb o e).2
    cases b with
    | false => exact close I9 (iteF_inv q9)
    | true =>
      refine thnF (k0.run _ s9 τ H9 _ I9 (iteT_inv q9)) fun z s10 ⟨yk, H10, I10, r10, q10⟩ => ?_
      refine thnF (v0.run _ s10 τ H10 _ I10 q10) fun z2 s11 ⟨yv, H11, I11, r11, kvs, k, c, isk, key, old, room, nx⟩ => ?_
      subst isk
      obtain rfl : z = Value.ref c := r10
      exact putT (X := X.blk s3 H3 sc ce fp) hu I11 old room key r11 fun s12 I12 => close I12 nx
/-- sorted(d), d a dict whose keys are pairs of ints: a new list of pairs, as many -/
def rSoT : List V → Hp → VK → Prop := fun xs H Q => ∃ (a : Addr) (kvs : List (List Key × V)), xs = [.ref a] ∧ H a = some (.dT kvs) ∧ (∀ p ∈ kvs, ∃ i j : Int, p.1 = [Sum.inl i, Sum.inl j]) ∧
  ∀ (ys : List V) (p : Addr), ys.length = kvs.length → (∀ y ∈ ys, ∃ (b : Addr) (i j : Int), y = .ref b ∧ H b = some (.tup [.int i, .int j])) → H p = none → Q (.ref p) (upd H p (.lst ys))
theorem kt_mem {H : Hp} : ∀ {kvs : List (List Key × V)} {ks : List (List Key × Addr × Value)}, KT H kvs ks → ∀ k ∈ ks, ∃ p ∈ kvs, H k.2.1 = some (.tup (p.1.map kV))
  | _, _, .nil, k, h => by simp at h
  | _, _, .cons a r, k, h => by
    rcases List.mem_cons.mp h with rfl | h
    · exact ⟨_, by simp, a.2.1⟩
    · obtain ⟨p, hp, e⟩ := kt_mem r k h
      exact ⟨p, List.mem_cons_of_mem _ hp, e⟩
theorem call_sortedT (calm : X.calm = true) : CallR X (.builtin "sorted") rSoT := by
  intro pins s σ H xs us Q I r need
  obtain ⟨a, kvs, rfl, ha, pairs, q⟩ := need
  obtain ⟨u, rfl, ru⟩ := vals1 r
  obtain rfl : u = Value.ref a := ru
  obtain ⟨small, low, ks, rel, o, es, ep, ho, exact_, dat, ent, _⟩ := (show ObjOk X.prog X.w H s.heap a (.dT kvs) from I.hok a _ ha)
  have n1 : es.size = ks.length := size_of_entries ent
  have n2 : kvs.length = ks.length := Paired.length rel
  refine Calls.call_function_entry PyProof.Rows.kind_sorted PyProof.Rows.plain_sorted PyProof.Rows.entry_sorted (PyProof.Rows.args_sorted1 _) ?_
  unfold Builtin.«sorted»
  refine wpAny_bind (m := checkCount "sorted" 1 1 _) (wpAny_pure (wpAny_bind (PySem.W.kdu_collect (A := X.A.in1) (kdl_raw low exact_ dat) (I.ok.hd calm) ho (by omega) fun h' tk acc keep items => ?_)))
  have I1 : Inv X pins σ H { s with heap := h', toks := tk } := I.kept keep
  have len : acc.toList.length = kvs.length := by rw [Array.length_toList, items.1]; omega
  have refs : ∀ v ∈ acc.toList, ∃ (b : Addr) (i j : Int), v = .ref b ∧ H b = some (.tup [.int i, .int j]) := fun v hv => by
    obtain ⟨j, hj⟩ := List.mem_iff_getElem?.mp hv
    obtain ⟨en, hen, rfl⟩ := items.2 j v (by rw [← Array.getElem?_toList]; exact hj)
    have q1 := entry_at ent j
    rw [hen] at q1
    cases hk : ks[j]? with
    | none => rw [hk] at q1; cases q1
    | some k =>
      rw [hk] at q1
      obtain rfl := Option.some.inj q1
      obtain ⟨p, hp, hb⟩ := kt_mem rel k (List.mem_of_getElem? hk)
      obtain ⟨i, j, e⟩ := pairs p hp
      rw [e] at hb
      exact ⟨k.2.1, i, j, rfl, hb⟩
  refine wpAny_bind (wpAny_newList ?_ (by omega))
  have at_ : (h'.push (seqObj "list" acc.toList.toArray 0)).get? h'.objs.size = some (seqObj "list" acc.toList.toArray 0) := Heap.get?_push_size _ rfl
  show wpAny _ _ _ _ _ { s with heap := h'.push (seqObj "list" acc.toList.toArray 0), toks := tk }
  refine wpAny_bind (wpAny_holding (wpAny_call_entry PyProof.Rows.slot_list_sort ⟨_, at_, rfl⟩ PyProof.Rows.entry_list_sort
    (Srt.list_sort_any (s := { s with heap := h'.push (seqObj "list" acc.toList.toArray 0), toks := tk }) at_ (by omega) (fun h2 => Srt.pairs_sortable (by omega) (fun v hv => ?_) fun o e => ?_) fun out perm => ⟨_, rfl, ?_⟩) (PyProof.Rows.args_list_sort _)))
  · obtain ⟨b, i, j, rfl, hb⟩ := refs v hv
    obtain ⟨_, its, r2, ob, o1, o2, n, o3⟩ := (show ObjOk X.prog X.w H h' b (.tup [.int i, .int j]) from I1.hok b _ hb)
    obtain ⟨u1, u2, rfl, ri, rj⟩ := vals2 r2
    obtain ⟨t1, rfl⟩ := ri
    obtain ⟨t2, rfl⟩ := rj
    exact ⟨i, j, b, ob, t1, t2, n, rfl, Heap.get?_push_of_some _ o1, o2, o3⟩
  · have e' : some o = some (seqObj "list" acc.toList.toArray 0) := e.symm.trans at_
    cases e'
    exact fun c => absurd (Value.type.inj c) (by decide)
  · obtain ⟨n, hn⟩ := PyProof.Rows.sortedHeap_at (vs := acc.toList) (out := out.toArray) at_
    have refs' : ∀ v ∈ out, ∃ (b : Addr) (i j : Int), v = .ref b ∧ H b = some (.tup [.int i, .int j]) := fun v hv => refs v (perm.mem_iff.mp hv)
    have olen : out.length = kvs.length := by rw [perm.length_eq]; exact len
    refine wpAny_pure ⟨_, rfl, .ref h'.objs.size, upd H h'.objs.size (.lst (out.map backV)), I1.laid (t' := tk) (fun b u e => ?_) (Nat.le_refl _)
      (show ObjOk X.prog X.w _ _ _ (.lst (out.map backV)) from ⟨by rw [List.length_map, olen]; exact small, out, n, vals_back fun v hv => ?_, hn⟩), rfl, q _ _ ?_ (fun y hy => ?_) (I1.hok.fresh (Nat.le_refl _))⟩
    · have lt : b < h'.objs.size := Heap.lt_size e
      rw [PyProof.Rows.sortedHeap_old (Nat.ne_of_lt lt) (by rw [size_push']; exact Nat.lt_succ_of_lt lt)]
      exact Heap.get?_push_of_some _ e
    · obtain ⟨b, _, _, rfl, _⟩ := refs' v hv
      exact ⟨b, rfl⟩
    · rw [List.length_map, olen]
    · obtain ⟨v, hv, rfl⟩ := List.mem_map.mp hy
      obtain ⟨b, i, j, rfl, hb⟩ := refs' v hv
      exact ⟨b, i, j, rfl, hb⟩
/-- list(d.values()) -/
def tVals (td : TE) : TE := fun σ H Q => td σ H fun x H1 => ∃ (a : Addr) (kvs : List (Key × V)), x = V.ref a ∧ H1 a = some (.dK kvs) ∧ ∀ p, H1 p = none → Q (.ref p) (upd H1 p (.lst (kvs.map (·.2))))
theorem pe_listVals {o : Expr} {p pos apos mpos : Pos} {td : TE} (calm : X.calm = true) (hg : Gl X "list") (hm : X.mg "list" = none) (hd : PE X o td) (hbase : attributeBase o "values" X.env (eval o X.env) = eval o X.env := by rfl) (hline : (apos.endLine == mpos.line) = true := by rfl)
    (hse : starEach [Expr.Call (.Attribute o "values" apos) [] [] mpos] X.env = [(false, eval (Expr.Call (.Attribute o "values" apos) [] [] mpos) X.env)] := by rfl) :
    PE X (.Call (.Name "list" p) [.Call (.Attribute o "values" apos) [] [] mpos] [] pos) (tVals td) := by
  refine ⟨fun pins s σ H Q I need => ?_⟩
  refine wpAny_Call_Name_kw (ld_blt I hg hm boot_list ?_)
  rw [hse]
  refine PySem.callWith_type1 (wpAny_Call_method0_late hbase hline (thn (hd.run pins s σ H _ I need) fun v s1 ⟨x, H1, I1, r1, a, kvs, ex, ha, q⟩ => ?_))
  subst ex
  obtain rfl : v = Value.ref a := r1
  obtain ⟨small, low, vs, rel, dict⟩ := dk_of I1.hok ha
  obtain ⟨ep, there⟩ := dict.dictAt
  have whole := there
  obtain ⟨ob, es, ho, ex, _⟩ := whole
  refine ⟨"dict", "dict.values", F.plainAttrs_dict, F.slot_dict_values, F.type_dict_values, ⟨ob, ho, ex.1⟩, fun b e => ?_, Calls.callWith_builtin rfl (PySem.evalArgs_none ?_)⟩
  · cases e
    exact ⟨ob, ho, ex.2.1⟩
  refine call_meetsIn F.slot_dict_values ⟨ob, ho, ex.1⟩ F.entry_dict_values (F.args_dict_values_1 _) (meets_dict_values (mixKind X.prog X.w) a low) ⟨⟨vs, dict⟩, ?_⟩
  have old : ∀ b u, s1.heap.get? b = some u → (s1.heap.push { cls := .type "dict_values", data := .fields #[.ref a] }).get? b = some u := fun b u e => Heap.get?_push_of_some _ e
  have there1 : (s1.heap.push { cls := .type "dict_values", data := .fields #[.ref a] }).DictAt (mixKind X.prog X.w) a vs ep := there.keep old
  have n1 : kvs.length = vs.length := KV.length rel
  have I2 : Inv X pins σ H1 { s1 with heap := s1.heap.push { cls := .type "dict_values", data := .fields #[.ref a] } } := I1.kept (t' := s1.toks) old
  refine PySem.W.kdl_call (PySem.W.kdl_values (knd := mixKind X.prog X.w) (r := s1.heap.objs.size) (d := a) (kvs := vs) (ep := ep)) (I1.ok.hd calm) ⟨⟨_, Heap.get?_push_size _ rfl, rfl, rfl⟩, there1⟩ (by omega) fun h' tk acc c keep at_ items => ?_
  refine ⟨.ref _, upd H1 _ (.lst (kvs.map (·.2))), I2.laid (t' := tk) keep (Nat.le_refl _) ?_, rfl, q _ (I2.hok.fresh (Nat.le_refl _))⟩
  refine (show ObjOk X.prog X.w _ _ _ (.lst (kvs.map (·.2))) from ⟨by rw [List.length_map]; exact small, acc.toList, c, ?_, by rw [Array.toArray_toList]; exact at_⟩)
  refine vals_of_at (by rw [List.length_map, n1]; simpa using items.1.symm) fun j x w h1 h2 => ?_
  obtain ⟨k, hk⟩ := items.2 j w (by rw [← Array.getElem?_toList]; exact h2)
  obtain ⟨y, g1, g2⟩ := KV.at' rel hk
  rw [List.getElem?_map, g1] at h1
  cases h1
  exact g2
end
/-! ### over data -/
/-- a reading that gives some data of a kind -/
def DenX (te : TE) (ρ : Ev) (S : PyData → Prop) : Prop := ∀ M σ H, Mok M H → EnvR M H σ ρ → ∀ Q : VK, (∀ d v H2, S d → Ex H H2 → Dt M H2 v d → Q v H2) → te σ H Q
def DenSX (t : TS) (ρ : Ev) (S : PyData → Prop) : Prop := ∀ M σ H, Mok M H → EnvR M H σ ρ → ∀ Dn : Ends, (∀ d v H2, S d → Ex H H2 → Dt M H2 v d → Dn.rt v H2) → t Dn σ H
def SpX (Pre : List PyData → (PyData → Prop) → Prop) : Sp := fun vs H Q _ => ∃ M ds S, Mok M H ∧ DtL M H vs ds ∧ Pre ds S ∧ ∀ d v H2, S d → Ex H H2 → Dt M H2 v d → Q v H2
section
variable {K : PySem.W.Frag} {ρ ρ1 : Ev} {ta tb te tv : TE} {tt : TT} {t u : TS} {d : PyData} {ds : List PyData} {S : PyData → Prop} {r : R2}
theorem dsx_seq (h1 : DenS t ρ (.nx ρ1)) (h2 : DenSX u ρ1 S) : DenSX (tSeq t u) ρ S := fun M σ H m e Dn q =>
  h1 M σ H m e _ fun σ1 H1 e1 r1 => h2 M σ1 H1 (m.ex e1) r1 Dn fun d v H2 s e2 x => q d v H2 s (e1.trans e2) x
theorem dsx_ret (h : DenX te ρ S) : DenSX (tRet te) ρ S := fun M σ H m e Dn q => h M σ H m e _ q
theorem dx_call {Pre : List PyData → (PyData → Prop) → Prop} {E : XK} {t : TA} (h : DenA t ρ ds) (hp : Pre ds S) : DenX (tCall (SpX Pre) [] E t) ρ S := fun M σ H m e Q q =>
  h M σ H m e _ fun vs H1 e1 d1 => ⟨M, ds, S, m.ex e1, by rw [List.append_nil]; exact d1, hp, fun d v H2 s e2 d2 => q d v H2 s (e1.trans e2) d2⟩
theorem dx_truth {b : Bool} (h : DenX te ρ S) (hb : ∀ d, S d → tru d = b ∧ ∀ s, d ≠ .str s) : DenT (tTruth K te) ρ b := fun M σ H m e Q q =>
  h M σ H m e _ fun d v H1 s e1 d1 => by
    obtain ⟨h1, h2⟩ := hb d s
    subst h1
    exact ⟨_, tru_of d1 fun s z => absurd z (h2 s), q H1 e1⟩
theorem dx_op {x z : PyData} (h1 : DenX ta ρ S) (h2 : Den tb ρ x) (hr : ∀ d, S d → R2D r d x z) : Den (tOp r ta tb) ρ z := fun M σ H m e Q q =>
  h1 M σ H m e _ fun d v H1 s e1 d1 => h2 M σ H1 (m.ex e1) (e.ex e1) _ fun u H2 e2 d2 => hr d s M H2 v u (m.ex (e1.trans e2)) (d1.ex e2) d2 Q fun w H3 e3 d3 => q w H3 (e1.trans (e2.trans e3)) d3
theorem run_X {Pre : List PyData → (PyData → Prop) → Prop} {t : TS} {N : List Str} {vs : List V} {H : Hp} {Q : VK} {E : XK} (h : SpX Pre vs H Q E) (hd : ∀ ds S, Pre ds S → DenSX t (st0 N ds) S) : t { nx := fun _ H' => Q .non H', rt := Q } (L2.start N vs) H := by
  obtain ⟨M, ds, S, m, r, p, q⟩ := h
  exact hd ds S p M _ H m (env0 r) _ fun d v H2 s e2 d2 => q d v H2 s e2 d2
theorem len_X {Pre : List PyData → (PyData → Prop) → Prop} {n : Nat} (h : ∀ ds S, Pre ds S → ds.length = n) : ∀ vs H Q E, SpX Pre vs H Q E → vs.length = n := by
  rintro vs H Q E ⟨M, ds, S, m, r, p, q⟩
  rw [r.length, h ds S p]
theorem dn_vals {l : List (Int × Int)} (h : Den te ρ (dD l)) : Den (tVals te) ρ (.list ((l.map (·.2)).map .int)) := fun M σ H m e Q q =>
  h M σ H m e _ fun x H1 e1 d1 => by
    obtain ⟨a, rfl, n, ha⟩ := dt_dict d1
    refine ⟨a, _, rfl, ha, fun p hp => q _ _ (e1.trans (Ex.new hp)) (.lst ((m.ex e1).new hp) upd_same ?_)⟩
    have e : (dk l).map (·.2) = (l.map (·.2)).map V.int := by unfold dk; rw [List.map_map, List.map_map]; rfl
    rw [e]
    exact .of_ints _
/-- some pairs; none iff b -/
def cfS (b : Bool) (d : PyData) : Prop := ∃ l : List (Int × Int), d = dP l ∧ l.isEmpty = b
theorem cfS_tru {b : Bool} {d : PyData} (h : cfS b d) : tru d = !b ∧ ∀ s, d ≠ .str s := by
  obtain ⟨l, rfl, e⟩ := h
  refine ⟨?_, fun s z => nomatch z⟩
  show (!(l.map pr).isEmpty) = !b
  rw [← e]
  cases l <;> rfl
theorem dp_refs {M : Mt} {H : Hp} : ∀ {l : List (Int × Int)} {xs : List V}, DtL M H xs (l.map pr) → ∀ x ∈ xs, ∃ (b : Addr) (i j : Int), x = .ref b ∧ ¬ M b ∧ H b = some (.tup [.int i, .int j])
  | [], _, .nil, x, hx => by simp at hx
  | p :: l, _, .cons (.tup n h r) t, x, hx => by
    rcases List.mem_cons.mp hx with rfl | hx
    · cases r with
      | cons a r => cases r with
        | cons b r =>
          cases r
          cases a
          cases b
          exact ⟨_, p.1, p.2, rfl, n, h⟩
    · exact dp_refs t x hx
/-- the pairs are given by some list of their references -/
theorem refs_dt {M : Mt} {H : Hp} : ∀ {ys : List V}, (∀ y ∈ ys, ∃ (b : Addr) (i j : Int), y = .ref b ∧ ¬ M b ∧ H b = some (.tup [.int i, .int j])) → ∃ l : List (Int × Int), l.length = ys.length ∧ DtL M H ys (l.map pr)
  | [], _ => ⟨[], rfl, .nil⟩
  | y :: ys, h => by
    obtain ⟨b, i, j, rfl, n, hb⟩ := h y (by simp)
    obtain ⟨l, hl, g⟩ := refs_dt fun y hy => h y (List.mem_cons_of_mem _ hy)
    exact ⟨(i, j) :: l, by simp [hl], .cons (.tup n hb (.cons (.int i) (.cons (.int j) .nil))) g⟩
theorem emp_len {α β : Type} {a : List α} {b : List β} (h : a.length = b.length) : a.isEmpty = b.isEmpty := by
  cases a <;> cases b <;> simp at h ⊢
/-- sorted(pairs) -/
theorem dx_sortedP {l : List (Int × Int)} (h : Den te ρ (dP l)) : DenX (tCB (rSortedP K) (tCons te tNil)) ρ (cfS l.isEmpty) := fun M σ H m e Q q =>
  h M σ H m e _ fun v H1 e1 d1 => by
    cases d1 with
    | lst n h2 r =>
      have rf := dp_refs r
      refine ⟨_, _, rfl, SqL.of h2, fun x hx => ?_, fun ys p hp hn => ?_⟩
      · obtain ⟨b, i, j, rfl, _, hb⟩ := rf x hx
        exact ⟨b, i, j, rfl, hb⟩
      · obtain ⟨l', hl, g⟩ := refs_dt (M := M) (H := H1) fun y hy => rf y (hp.mem_iff.mp hy)
        have len : l'.length = l.length := by rw [hl, hp.length_eq, r.length, List.length_map]
        exact q _ _ _ ⟨l', rfl, emp_len len⟩ (e1.trans (Ex.new hn)) (.lst ((m.ex e1).new hn) upd_same (g.ex (Ex.new hn)))
theorem putT_ne {kvs : List (List Key × V)} {k : List Key} {v : V} : putK kvs k v ≠ [] := by
  unfold putK
  split
  · rename_i h
    intro z
    have : kvs = [] := List.map_eq_nil_iff.mp z
    subst this
    simp at h
  · simp
theorem putT_len {kvs : List (List Key × V)} {k : List Key} {v : V} : (putK kvs k v).length ≤ kvs.length + 1 := length_putK kvs k v
theorem putT_mem {kvs : List (List Key × V)} {k : List Key} {v : V} {p : List Key × V} (h : p ∈ putK kvs k v) : (∃ q ∈ kvs, q.1 = p.1) ∨ p.1 = k := by
  unfold putK at h
  split at h
  · obtain ⟨q, hq, e⟩ := List.mem_map.mp h
    refine .inl ⟨q, hq, ?_⟩
    rw [← e]
    split <;> rfl
  · rcases List.mem_append.mp h with h | h
    · exact .inl ⟨p, h, rfl⟩
    · exact .inr (by rw [List.mem_singleton.mp h])
/-- a reading that gives a list; none in it iff b -/
def DenE (te : TE) (ρ : Ev) (b : Bool) : Prop := ∀ M σ H, Mok M H → EnvR M H σ ρ → ∀ Q : VK, (∀ p xs H2, Ex H H2 → H2 p = some (.lst xs) → xs.isEmpty = b → Q (.ref p) H2) → te σ H Q
def SpE (Pre : List PyData → Bool → Prop) : Sp := fun vs H Q _ => ∃ M ds b, Mok M H ∧ DtL M H vs ds ∧ Pre ds b ∧ ∀ p xs H2, Ex H H2 → H2 p = some (.lst xs) → xs.isEmpty = b → Q (.ref p) H2
def DenSE (t : TS) (ρ : Ev) (b : Bool) : Prop := ∀ M σ H, Mok M H → EnvR M H σ ρ → ∀ Dn : Ends, (∀ p xs H2, Ex H H2 → H2 p = some (.lst xs) → xs.isEmpty = b → Dn.rt (.ref p) H2) → t Dn σ H
theorem dse_seq {b : Bool} (h1 : DenS t ρ (.nx ρ1)) (h2 : DenSE u ρ1 b) : DenSE (tSeq t u) ρ b := fun M σ H m e Dn q =>
  h1 M σ H m e _ fun σ1 H1 e1 r1 => h2 M σ1 H1 (m.ex e1) r1 Dn fun p xs H2 e2 x y => q p xs H2 (e1.trans e2) x y
theorem dse_ret {b : Bool} (h : DenE te ρ b) : DenSE (tRet te) ρ b := fun M σ H m e Dn q => h M σ H m e _ q
theorem de_call {b : Bool} {Pre : List PyData → Bool → Prop} {E : XK} {t : TA} (h : DenA t ρ ds) (hp : Pre ds b) : DenE (tCall (SpE Pre) [] E t) ρ b := fun M σ H m e Q q =>
  h M σ H m e _ fun vs H1 e1 d1 => ⟨M, ds, b, m.ex e1, by rw [List.append_nil]; exact d1, hp, fun p xs H2 e2 x y => q p xs H2 (e1.trans e2) x y⟩
theorem de_truth {b : Bool} (h : DenE te ρ b) : DenT (tTruth K te) ρ (!b) := fun M σ H m e Q q =>
  h M σ H m e _ fun p xs H1 e1 x y => ⟨_, .inl ⟨xs, SqL.of x, by rw [y]⟩, q H1 e1⟩
theorem run_E {Pre : List PyData → Bool → Prop} {t : TS} {N : List Str} {vs : List V} {H : Hp} {Q : VK} {E : XK} (h : SpE Pre vs H Q E) (hd : ∀ ds b, Pre ds b → DenSE t (st0 N ds) b) : t { nx := fun _ H' => Q .non H', rt := Q } (L2.start N vs) H := by
  obtain ⟨M, ds, b, m, r, p, q⟩ := h
  exact hd ds b p M _ H m (env0 r) _ q
theorem len_E {Pre : List PyData → Bool → Prop} {n : Nat} (h : ∀ ds b, Pre ds b → ds.length = n) : ∀ vs H Q E, SpE Pre vs H Q E → vs.length = n := by
  rintro vs H Q E ⟨M, ds, b, m, r, p, q⟩
  rw [r.length, h ds b p]
/-- sorted({pair: True for pair in pairs}) -/
theorem de_sortedDT {wi : TI} {j : Nat} {l : List (Int × Int)} (h : DenI wi ρ (l.map pr)) (hj : j < ρ.length) (hl : l.length ≤ 40000) : DenE (tCB rSoT (tCons (tDcT wi (gName j) tYes (tVar j) (tC (.bl true)) [j]) tNil)) ρ l.isEmpty := fun M σ H m e Q q => by
  refine h M σ H m e _  fun J H1 e1 hJ => ?_
  intro D hD
  have m1 := m.ex e1
  have nD : ¬ M D := m1.new hD
  refine ⟨fun i m' H' => i + m' = l.length ∧ i ≤ l.length ∧ Ex H1 H' ∧ ∃ kvs : List (List Key × V), H' D = some (.dT kvs) ∧ (kvs.isEmpty = decide (i = 0)) ∧ kvs.length ≤ i ∧ ∀ p ∈ kvs, ∃ i j : Int, p.1 = [Sum.inl i, Sum.inl j], ⟨l.length, by omega, by omega, Ex.new hD, [], upd_same, rfl, by simp, by simp⟩, ?_⟩
  rintro i m' H2 ⟨hm, hi, ex2, kvs, hxs, hemp, hlen, hprs⟩
  have g2 := grw_new (M := M) hD ex2
  have mk := mok_new m1 ex2 hxs
  obtain ⟨go, st⟩ := hJ _ H2 g2
  by_cases hi' : i < l.length
  · have hdi : (l.map pr)[i]? = some (pr l[i]) := by rw [List.getElem?_map, List.getElem?_eq_getElem hi']; rfl
    obtain ⟨g1, yl⟩ := go i _ hdi
    refine .inr ⟨g1, fun H' => Ex H1 H' ∧ ∃ kvs : List (List Key × V), H' D = some (.dT kvs) ∧ (kvs.isEmpty = decide (i + 1 = 0)) ∧ kvs.length ≤ i + 1 ∧ ∀ p ∈ kvs, ∃ i j : Int, p.1 = [Sum.inl i, Sum.inl j], fun H' hN => ⟨m' - 1, by omega, by omega, by omega, hN⟩, fun x H3 hx => ?_⟩
    obtain ⟨ex3, dx⟩ := yl x H3 hx
    have e3 : EnvR (fun b => M b ∨ b = D) H3 (wipe σ [j]) (wpE ρ [j]) := (((e.ex e1).wpE [j]).grw g2).ex ex3
    refine dg_name (j := j) _ _ H3 x (mk.ex ex3) e3 dx _ fun σ2 o2 e2 => ⟨(wipe_eq o2).trans (wipe_eq Out.wipe), tYes_of ?_⟩
    refine iteT ?_
    refine dn_var (i := j) (d := pr l[i]) (by rw [List.getElem?_set_self]; simpa [wpE] using hj) _ σ2 H3 (mk.ex ex3) e2 _ fun y H4 e4 dy => dn_bl _ σ2 H4 (mk.ex (ex3.trans e4)) (e2.ex e4) _ fun z H5 e5 dz => ?_
    cases dy with
    | tup n h6 r =>
      cases r with
      | cons a r => cases r with
        | cons b r =>
          cases r
          cases a
          cases b
          have x5 := e5 _ _ (e4 _ _ (ex3 _ _ hxs))
          refine ⟨kvs, [Sum.inl l[i].1, Sum.inl l[i].2], _, rfl, e5 _ _ h6, x5, Evl.sz_lt (by omega), Evl.Ex.mut (ex2.trans (ex3.trans (e4.trans e5))) hD, _, upd_same, ?_, ?_, ?_⟩
          · have := putT_ne (kvs := kvs) (k := [Sum.inl l[i].1, Sum.inl l[i].2]) (v := z)
            cases c : putK kvs [Sum.inl l[i].1, Sum.inl l[i].2] z with
            | nil => exact absurd c this
            | cons _ _ => simp
          · exact Nat.le_trans putT_len (by omega)
          · intro p hp
            rcases putT_mem hp with ⟨q, hq, e⟩ | e
            · rw [← e]; exact hprs q hq
            · exact ⟨_, _, e⟩
  · have ei : i = l.length := by omega
    subst ei
    refine .inl ⟨by rw [List.length_map] at st; exact st, D, kvs, rfl, hxs, hprs, fun ys p hy hr hn => ?_⟩
    refine q p ys _ (e1.trans (ex2.trans (Ex.new hn))) upd_same ?_
    rw [emp_len hy, hemp]
    cases l with
    | nil => rfl
    | cons _ _ => exact decide_eq_false (by simp)
end
end Nd
set_option Elab.async false
set_option linter.all false
set_option maxRecDepth 100000
set_option maxHeartbeats 1000000
/-! The stream of numbers: a list of the law's own, [numbers, cell, place]; what reads it gives some data of a kind. -/
namespace Nd
open PySem PySem.Spec PyProof.Rows L2
open Evl (Ex Ex.refl Ex.trans Ex.new)
def StOk (M : Mt) (a : Addr) (H : Hp) : Prop := M a ∧ ∃ (l : Addr) (xs : List Int) (c : Int) (k : Nat), H a = some (.lst [.ref l, .int c, .int k]) ∧ ¬ M l ∧ H l = some (.lst (xs.map V.int))
theorem StOk.ex {M : Mt} {a : Addr} {H H' : Hp} (h : StOk M a H) (e : Ex H H') : StOk M a H' := by
  obtain ⟨m, l, xs, c, k, h1, h2, h3⟩ := h
  exact ⟨m, l, xs, c, k, e _ _ h1, h2, e _ _ h3⟩
theorem StOk.put {M : Mt} {a p : Addr} {H : Hp} {o : HO} (h : StOk M a H) (hp : M p) (n : a ≠ p) : StOk M a (upd H p o) := by
  obtain ⟨m, l, xs, c, k, h1, h2, h3⟩ := h
  have n2 : l ≠ p := fun z => h2 (z ▸ hp)
  exact ⟨m, l, xs, c, k, by rw [upd_ne n]; exact h1, h2, by rw [upd_ne n2]; exact h3⟩
theorem StOk.less {M M' : Mt} {a : Addr} {H : Hp} (h : StOk M a H) (x : ∀ b, M' b → M b) (m : M' a) : StOk M' a H := by
  obtain ⟨_, l, xs, c, k, h1, h2, h3⟩ := h
  exact ⟨m, l, xs, c, k, h1, fun z => h2 (x l z), h3⟩
/-- one more address that may change, new -/
theorem StOk.more {M : Mt} {a D : Addr} {H H' : Hp} (h : StOk M a H) (hD : H D = none) (e : Ex H H') : StOk (fun b => M b ∨ b = D) a H' := by
  obtain ⟨m, l, xs, c, k, h1, h2, h3⟩ := h
  exact ⟨.inl m, l, xs, c, k, e _ _ h1, fun z => z.elim h2 (ne_of_none h3 hD), e _ _ h3⟩
/-- what stands beside: the stream, and what goes with it -/
structure Fr (a : Addr) where
  F : Mt → Hp → Prop
  st : ∀ {M H}, F M H → StOk M a H
  ex : ∀ {M H H'}, F M H → Ex H H' → F M H'
  call : ∀ {M H H'}, F M H → Xq a H H' → StOk M a H' → F M H'
def fs (a : Addr) : Fr a := ⟨fun M H => StOk M a H, id, StOk.ex, fun _ _ h => h⟩
def DeE {a : Addr} (f : Fr a) (te : TE) (ρ : Ev) (S : PyData → Prop) : Prop := ∀ M σ H, Mok M H → EnvR M H σ ρ → f.F M H → ∀ Q : VK, (∀ d v H2, S d → Xq a H H2 → Mok M H2 → f.F M H2 → Dt M H2 v d → Q v H2) → te σ H Q
def DeB {a : Addr} (f : Fr a) (tt : TT) (ρ : Ev) (S : Bool → Prop) : Prop := ∀ M σ H, Mok M H → EnvR M H σ ρ → f.F M H → ∀ Q : Bool → Hp → Prop, (∀ b H2, S b → Xq a H H2 → Mok M H2 → f.F M H2 → Q b H2) → tt σ H Q
def DeA {a : Addr} (f : Fr a) (ta : TA) (ρ : Ev) (S : List PyData → Prop) : Prop := ∀ M σ H, Mok M H → EnvR M H σ ρ → f.F M H → ∀ Q : List V → Hp → Prop, (∀ ds vs H2, S ds → Xq a H H2 → Mok M H2 → f.F M H2 → DtL M H2 vs ds → Q vs H2) → ta σ H Q
def DeI {a : Addr} (f : Fr a) (wi : TI) (ρ : Ev) (N : Nat → Prop) : Prop := ∀ M σ H, Mok M H → EnvR M H σ ρ → f.F M H → ∀ R : It → Hp → Prop, (∀ n J H2, N n → Xq a H H2 → Mok M H2 → f.F M H2 → ItD M J H2 (ups n) → R J H2) → wi σ H R
def DeS {a : Addr} (f : Fr a) (t : TS) (ρ : Ev) (G : Ev → Prop) (R : PyData → Prop) : Prop := ∀ M σ H, Mok M H → EnvR M H σ ρ → f.F M H → ∀ Dn : Ends, (∀ ρ' σ' H2, G ρ' → Xq a H H2 → Mok M H2 → f.F M H2 → EnvR M H2 σ' ρ' → Dn.nx σ' H2) →
  (∀ d v H2, R d → Xq a H H2 → Mok M H2 → f.F M H2 → Dt M H2 v d → Dn.rt v H2) → t Dn σ H
/-- the promise of a def whose first argument is the stream -/
def SpN (Pre : List PyData → (PyData → Prop) → Prop) : Sp := fun vs H Q _ => ∃ M a us ds S, Mok M H ∧ vs = .ref a :: us ∧ DtL M H us ds ∧ StOk M a H ∧ Pre ds S ∧ ∀ d v H2, S d → Xq a H H2 → Mok M H2 → StOk M a H2 → Dt M H2 v d → Q v H2
section
variable {a : Addr} {f : Fr a} {K : PySem.W.Frag} {ρ ρ1 : Ev} {ta tb te : TE} {tt tu : TT} {t u : TS} {x y z d : PyData} {ds : List PyData} {r : R2} {S S1 S2 : PyData → Prop} {R : PyData → Prop} {G G2 : Ev → Prop}
theorem EnvR.xq {M : Mt} {H H' : Hp} {σ : L2.St} (h : EnvR M H σ ρ) (x : Xq a H H') (m : M a) : EnvR M H' σ ρ := h.xt (x.xt m)
theorem ee_pure (h : Den te ρ d) : DeE f te ρ (· = d) := fun M σ H m e s Q q => h M σ H m e _ fun v H1 e1 d1 => q d v H1 rfl (.of e1) (m.ex e1) (f.ex s e1) d1
theorem ee_imp (h : DeE f te ρ S) (i : ∀ d, S d → S1 d) : DeE f te ρ S1 := fun M σ H m e s Q q => h M σ H m e s _ fun d v H1 hs => q d v H1 (i d hs)
theorem ee_op (h1 : DeE f ta ρ S1) (h2 : ∀ x, S1 x → DeE f tb ρ S2) (hr : ∀ x y, S1 x → S2 y → ∃ z, R2D r x y z ∧ S z) : DeE f (tOp r ta tb) ρ S := fun M σ H m e s Q q =>
  h1 M σ H m e s _ fun x v H1 hx x1 m1 s1 d1 => h2 x hx M σ H1 m1 (e.xq x1 (f.st s).1) s1 _ fun y w H2 hy x2 m2 s2 d2 => by
    obtain ⟨z, hz, sz⟩ := hr x y hx hy
    exact hz M H2 v w m2 (d1.xt (x2.xt (f.st s).1)) d2 Q fun o H3 e3 d3 => q z o H3 sz (x1.trans (x2.trans (.of e3))) (m2.ex e3) (f.ex s2 e3) d3
theorem ea_pure {tA : TA} (h : DenA tA ρ ds) : DeA f tA ρ (· = ds) := fun M σ H m e s Q q => h M σ H m e _ fun v H1 e1 d1 => q ds v H1 rfl (.of e1) (m.ex e1) (f.ex s e1) d1
theorem ea_cons {tA : TA} {S2 : List PyData → Prop} (h1 : DeE f te ρ S1) (h2 : ∀ x, S1 x → DeA f tA ρ S2) : DeA f (tCons te tA) ρ (fun l => ∃ x xs, S1 x ∧ S2 xs ∧ l = x :: xs) := fun M σ H m e s Q q =>
  h1 M σ H m e s _ fun x v H1 hx x1 m1 s1 d1 => h2 x hx M σ H1 m1 (e.xq x1 (f.st s).1) s1 _ fun y w H2 hy x2 m2 s2 d2 => q _ _ H2 ⟨x, y, hx, hy, rfl⟩ (x1.trans x2) m2 s2 (.cons (d1.xt (x2.xt (f.st s).1)) d2)
theorem ee_lst {tA : TA} {S : List PyData → Prop} (h : DeA f tA ρ S) (hl : ∀ ds, S ds → ds.length ≤ 100000) : DeE f (tLst tA) ρ (fun d => ∃ ds, S ds ∧ d = .list ds) := fun M σ H m e s Q q =>
  h M σ H m e s _ fun ds vs H1 hs x1 m1 s1 d1 => ⟨Evl.sz_of (by rw [d1.length]; exact hl ds hs), fun p hp => q _ _ _ ⟨ds, hs, rfl⟩ (x1.trans (.of (Ex.new hp))) (m1.ex (Ex.new hp)) (f.ex s1 (Ex.new hp)) (.lst (m1.new hp) upd_same (d1.ex (Ex.new hp)))⟩
theorem ee_tup {tA : TA} {S : List PyData → Prop} (h : DeA f tA ρ S) (hl : ∀ ds, S ds → ds.length ≤ 100000) : DeE f (tTup tA) ρ (fun d => ∃ ds, S ds ∧ d = .tuple ds) := fun M σ H m e s Q q =>
  h M σ H m e s _ fun ds vs H1 hs x1 m1 s1 d1 => ⟨Evl.sz_of (by rw [d1.length]; exact hl ds hs), fun p hp => q _ _ _ ⟨ds, hs, rfl⟩ (x1.trans (.of (Ex.new hp))) (m1.ex (Ex.new hp)) (f.ex s1 (Ex.new hp)) (.tup (m1.new hp) upd_same (d1.ex (Ex.new hp)))⟩
theorem ee_cb {rc : List V → Hp → VK → Prop} {tA : TA} {S1 : List PyData → Prop} (h : DeA f tA ρ S1) (hr : ∀ ds, S1 ds → ∃ z, RCD rc ds z ∧ S z) : DeE f (tCB rc tA) ρ S := fun M σ H m e s Q q =>
  h M σ H m e s _ fun ds vs H1 hs x1 m1 s1 d1 => by
    obtain ⟨z, hz, sz⟩ := hr ds hs
    exact hz M H1 vs m1 d1 Q fun o H3 e3 d3 => q z o H3 sz (x1.trans (.of e3)) (m1.ex e3) (f.ex s1 e3) d3
/-- a call that hands on the stream -/
theorem ee_call {Pre : List PyData → (PyData → Prop) → Prop} {E : XK} {j : Nat} {tA : TA} {S1 : List PyData → Prop} (hj : ρ[j]? = some (some (.r (.ref a)))) (h : DeA f tA ρ S1) (hp : ∀ ds, S1 ds → Pre ds S) : DeE f (tCall (SpN Pre) [] E (tCons (tVar j) tA)) ρ S := fun M σ H m e s Q q => by
  obtain ⟨o, ho, hr⟩ := e.at_ j _ hj
  obtain rfl : o = some (V.ref a) := hr
  refine ⟨_, ho, h M σ H m e s _ fun ds vs H1 hs x1 m1 s1 d1 => ?_⟩
  exact ⟨M, a, vs, ds, S, m1, by rw [List.append_nil], d1, f.st s1, hp ds hs, fun d v H2 sd x2 m2 s2 d2 => q d v H2 sd (x1.trans x2) m2 (f.call s1 x2 s2) d2⟩
theorem eb_test {S1 : Bool → Prop} (h : DeE f te ρ S) (hs : ∀ d, S d → ∃ b, d = .bool b ∧ S1 b) : DeB f (tTest te) ρ S1 := fun M σ H m e s Q q =>
  h M σ H m e s _ fun d v H1 hd x1 m1 s1 d1 => by
    obtain ⟨b, rfl, sb⟩ := hs d hd
    cases d1
    exact ⟨b, rfl, q b H1 sb x1 m1 s1⟩
theorem eb_pure {b : Bool} (h : DenT tt ρ b) : DeB f tt ρ (· = b) := fun M σ H m e s Q q => h M σ H m e _ fun H1 e1 => q b H1 rfl (.of e1) (m.ex e1) (f.ex s e1)
theorem eb_and {b : Bool} {S1 : Bool → Prop} (h1 : DenT tt ρ b) (h2 : b = true → DeB f tu ρ S1) (h0 : b = false → S1 false) : DeB f (tAnd tt tu) ρ S1 := fun M σ H m e s Q q =>
  h1 M σ H m e _ fun H1 e1 => by
    cases b with
    | true => exact iteT (h2 rfl M σ H1 (m.ex e1) (e.ex e1) (f.ex s e1) Q fun c H2 sc x2 => q c H2 sc ((Xq.of e1).trans x2))
    | false => exact iteF (q false H1 (h0 rfl) (.of e1) (m.ex e1) (f.ex s e1))
/-! statements -/
theorem es_pure (h : DenS t ρ (.nx ρ1)) : DeS f t ρ (· = ρ1) R := fun M σ H m e s Dn q _ => h M σ H m e _ fun σ' H1 e1 r => q ρ1 σ' H1 rfl (.of e1) (m.ex e1) (f.ex s e1) r
theorem es_pureR (h : DenS t ρ (.rt d)) (hd : R d) : DeS f t ρ G R := fun M σ H m e s Dn _ q => h M σ H m e _ fun v H1 e1 r => q d v H1 hd (.of e1) (m.ex e1) (f.ex s e1) r
theorem es_seq (h1 : DeS f t ρ G R) (h2 : ∀ ρ1, G ρ1 → DeS f u ρ1 G2 R) : DeS f (tSeq t u) ρ G2 R := fun M σ H m e s Dn q r =>
  h1 M σ H m e s _ (fun ρ1 σ1 H1 g x1 m1 s1 e1 => h2 ρ1 g M σ1 H1 m1 e1 s1 Dn (fun ρ2 σ2 H2 g2 x2 => q ρ2 σ2 H2 g2 (x1.trans x2)) fun d v H2 hd x2 => r d v H2 hd (x1.trans x2)) r
theorem es_seq1 (h1 : DenS t ρ (.nx ρ1)) (h2 : DeS f u ρ1 G2 R) : DeS f (tSeq t u) ρ G2 R := es_seq (es_pure h1) fun _ h => h ▸ h2
theorem es_if {t1 t2 : TS} {S1 : Bool → Prop} (h : DeB f tt ρ S1) (h1 : S1 true → DeS f t1 ρ G R) (h2 : S1 false → DeS f t2 ρ G R) : DeS f (tIfS tt t1 t2) ρ G R := fun M σ H m e s Dn q r =>
  h M σ H m e s _ fun b H1 sb x1 m1 s1 => by
    cases b with
    | true => exact iteT (h1 sb M σ H1 m1 (e.xq x1 (f.st s).1) s1 Dn (fun ρ2 σ2 H2 g2 x2 => q ρ2 σ2 H2 g2 (x1.trans x2)) fun d v H2 hd x2 => r d v H2 hd (x1.trans x2))
    | false => exact iteF (h2 sb M σ H1 m1 (e.xq x1 (f.st s).1) s1 Dn (fun ρ2 σ2 H2 g2 x2 => q ρ2 σ2 H2 g2 (x1.trans x2)) fun d v H2 hd x2 => r d v H2 hd (x1.trans x2))
theorem es_set {j : Nat} (h : DeE f te ρ S) : DeS f (tAsg te (gName j)) ρ (fun ρ' => ∃ d, S d ∧ ρ' = ρ.set j (some (.d d))) R := fun M σ H m e s Dn q _ =>
  h M σ H m e s _ fun d v H1 hd x1 m1 s1 d1 => q _ _ H1 ⟨d, hd, rfl⟩ x1 m1 s1 ((e.xq x1 (f.st s).1).set j ⟨v, rfl, d1⟩)
theorem es_ret (h : DeE f te ρ S) : DeS f (tRet te) ρ G S := fun M σ H m e s Dn _ r => h M σ H m e s _ fun d v H1 hd x1 m1 s1 d1 => r d v H1 hd x1 m1 s1 d1
theorem es_imp (h : DeS f t ρ G R) (i : ∀ ρ', G ρ' → ∃ ρ2, LeE ρ' ρ2 ∧ G2 ρ2) : DeS f t ρ G2 R := fun M σ H m e s Dn q r => h M σ H m e s Dn (fun ρ1 σ1 H1 g x1 m1 s1 e1 => by
  obtain ⟨ρ2, l, g2⟩ := i ρ1 g
  exact q ρ2 σ1 H1 g2 x1 m1 s1 (e1.le l)) r
theorem ei_rng1 {N : Nat → Prop} (h : DeE f te ρ S) (hs : ∀ d, S d → ∃ n : Nat, d = .int n ∧ n ≤ 100000 ∧ N n) : DeI f (iRng1 (tCons te tNil)) ρ N := fun M σ H m e s R q =>
  h M σ H m e s _ fun d v H1 hd x1 m1 s1 d1 => by
    obtain ⟨n, rfl, hn, Nn⟩ := hs d hd
    have h2 := di_rng1 (ρ := ρ) (t := fun _ H' Q => Q [V.int n] H') (n := n) (fun M σ H m e Q q => q _ H (Ex.refl H) (.one (.int n))) (by omega) (by omega) M σ H1 m1 (e.xq x1 (f.st s).1) R fun J H2 e2 hJ => by
      rw [Int.toNat_natCast] at hJ
      exact q n J H2 Nn (x1.trans (.of e2)) (m1.ex e2) (f.ex s1 e2) hJ
    cases d1
    exact h2
theorem es_for {wi : TI} {g : TG} {js : List Nat} {N : Nat → Prop} (I : Nat → Ev → Prop) (hi : DeI f wi ρ N) (h0 : I 0 ρ) (hb : ∀ (n i : Nat) (ρ0 : Ev), N n → i < n → I i ρ0 → ∃ ρ1, DenG g (.int i) ρ0 ρ1 js ∧ DeS f t ρ1 (I (i + 1)) R) :
    DeS f (tFor wi g t) ρ (fun ρ' => ∃ n, N n ∧ I n ρ') R := fun M σ H m e s Dn q r => by
  refine hi M σ H m e s _ fun n J H1 hn x1 m1 s1 hJ => ?_
  have ul : (ups n).length = n := by simp [ups]
  refine ⟨fun i m' σ' H' => i + m' = n ∧ ∃ ρ', I i ρ' ∧ Xq a H H' ∧ Xq a H1 H' ∧ Mok M H' ∧ f.F M H' ∧ EnvR M H' σ' ρ', ⟨n, by omega, ρ, h0, x1, .refl, m1, s1, e.xq x1 (f.st s).1⟩, ?_⟩
  rintro i m' σ' H2 ⟨hm, ρ0, i0, x2, x2', m2, s2, e2⟩
  obtain ⟨go, st⟩ := hJ M H2 (x2'.grw (f.st s).1)
  by_cases hi' : i < n
  · have hdi : (ups n)[i]? = some (.int i) := by
      unfold ups
      rw [List.getElem?_map, List.getElem?_range hi']
      rfl
    obtain ⟨gg, yl⟩ := go i _ hdi
    obtain ⟨ρ1, hg, hs⟩ := hb n i ρ0 hn hi' i0
    refine .inr ⟨gg, fun σ' H' => ∃ ρ', I (i + 1) ρ' ∧ Xq a H H' ∧ Xq a H1 H' ∧ Mok M H' ∧ f.F M H' ∧ EnvR M H' σ' ρ', fun σ' H' hN => ⟨m' - 1, by omega, by omega, hN⟩, fun x H3 hx => ?_⟩
    obtain ⟨ex3, dx⟩ := yl x H3 hx
    refine hg M σ' H3 x (m2.ex ex3) (e2.ex ex3) dx _ fun σ3 _ e3 => ?_
    exact hs M σ3 H3 (m2.ex ex3) e3 (f.ex s2 ex3) _ (fun ρ4 σ4 H4 g4 x4 m4 s4 e4 => ⟨ρ4, g4, x2.trans ((Xq.of ex3).trans x4), x2'.trans ((Xq.of ex3).trans x4), m4, s4, e4⟩) fun d v H4 hd x4 m4 s4 d4 => r d v H4 hd (x2.trans ((Xq.of ex3).trans x4)) m4 s4 d4
  · have ei : i = n := by omega
    subst ei
    rw [ul] at st
    exact .inl ⟨st, q ρ0 σ' H2 ⟨i, hn, i0⟩ x2 m2 s2 e2⟩
/-- [te for k in range(..)]: the new list D -/
theorem ee_lcD {wi : TI} {j : Nat} {N : Nat → Prop} (hi : DeI (fs a) wi ρ N) (hN : ∀ n, N n → n ≤ 40000) (he : ∀ i : Nat, DeE (fs a) te ((wpE ρ [j]).set j (some (.d (.int i)))) S) : ∀ M σ H, Mok M H → EnvR M H σ ρ → StOk M a H → ∀ Q : VK,
    (∀ n ds D xs H2, N n → ds.length = n → (∀ d ∈ ds, S d) → H D = none → H2 D = some (.lst xs) → DtL (fun b => M b ∨ b = D) H2 xs ds → Xq a H H2 → Mok M H2 → StOk (fun b => M b ∨ b = D) a H2 → Q (.ref D) H2) → tLc wi (gName j) tYes te [j] σ H Q := fun M σ H m e s Q q => by
  refine hi M σ H m e s _ fun n J H1 hn x1 m1 s1 hJ => ?_
  intro D hD
  have nD : ¬ M D := m1.new hD
  have ul : (ups n).length = n := by simp [ups]
  have aD : a ≠ D := fun z => nD (z ▸ s.1)
  have hD0 : H D = none := by
    cases c : H D with
    | none => rfl
    | some o => have := x1 D o (Ne.symm aD) c; rw [hD] at this; cases this
  refine ⟨fun i m' H' => i + m' = n ∧ Xq a H1 H' ∧ Mok M H' ∧ StOk (fun b => M b ∨ b = D) a H' ∧ ∃ xs ds, ds.length = i ∧ (∀ d ∈ ds, S d) ∧ H' D = some (.lst xs) ∧ DtL (fun b => M b ∨ b = D) H' xs ds,
    ⟨n, by omega, .of (Ex.new hD), m1.ex (Ex.new hD), s1.more hD (Ex.new hD), [], [], rfl, by simp, upd_same, .nil⟩, ?_⟩
  rintro i m' H2 ⟨hm, x2, m2, s2, xs, ds, hl, hS, hxs, hd⟩
  have g2 : Grw M H1 (fun b => M b ∨ b = D) H2 := ⟨fun b hb => hb.elim .inl fun z => .inr (z ▸ hD), x2.xt (.inl s.1)⟩
  have mk : Mok (fun b => M b ∨ b = D) H2 := fun b hb z => by
    rcases hb with hb | hb
    · exact m2 b hb z
    · rw [hb, hxs] at z; cases z
  obtain ⟨go, st⟩ := hJ _ H2 g2
  by_cases hi' : i < n
  · have hdi : (ups n)[i]? = some (.int i) := by
      unfold ups
      rw [List.getElem?_map, List.getElem?_range hi']
      rfl
    obtain ⟨gg, yl⟩ := go i _ hdi
    refine .inr ⟨gg, fun H' => Xq a H1 H' ∧ Mok M H' ∧ StOk (fun b => M b ∨ b = D) a H' ∧ ∃ xs ds, ds.length = i + 1 ∧ (∀ d ∈ ds, S d) ∧ H' D = some (.lst xs) ∧ DtL (fun b => M b ∨ b = D) H' xs ds, fun H' hN => ⟨m' - 1, by omega, by omega, hN⟩, fun x H3 hx => ?_⟩
    obtain ⟨ex3, dx⟩ := yl x H3 hx
    have e3 : EnvR (fun b => M b ∨ b = D) H3 (wipe σ [j]) (wpE ρ [j]) := (((e.xq x1 s.1).wpE [j]).grw g2).ex ex3
    refine dg_name (j := j) _ _ H3 x (mk.ex ex3) e3 dx _ fun σ2 o2 e2 => ⟨(wipe_eq o2).trans (wipe_eq Out.wipe), tYes_of ?_⟩
    refine iteT (he i _ σ2 H3 (mk.ex ex3) e2 (s2.ex ex3) _ fun d y H4 sd x4 m4 s4 d4 => ?_)
    have hx4 := x4 D _ (Ne.symm aD) (ex3 _ _ hxs)
    refine ⟨xs, hx4, ?_, ?_, ?_, ?_, _, ds ++ [d], ?_, ?_, upd_same, ?_⟩
    · refine Evl.sz_lt ?_
      rw [hd.length, hl]
      have := hN n hn
      omega
    · intro b o hb hh
      rw [upd_ne (ne_of_none hh hD)]
      exact x4 b o hb (ex3 _ _ (x2 b o hb hh))
    · exact Mok.upd fun b hb => m4 b (.inl hb)
    · exact StOk.put (show StOk _ a H4 from s4) (.inr rfl) aD
    · simp [hl]
    · intro c hc
      rcases List.mem_append.mp hc with hc | hc
      · exact hS c hc
      · rw [List.mem_singleton.mp hc]; exact sd
    · exact (((hd.ex ex3).xt (x4.xt (.inl s.1))).xt (Xt.upd .refl (.inr rfl))).app (.one (d4.xt (Xt.upd .refl (.inr rfl))))
  · have ei : i = n := by omega
    subst ei
    rw [ul] at st
    exact .inl ⟨st, q _ ds D xs H2 hn hl hS hD0 hxs hd (x1.trans x2) m2 s2⟩
theorem ee_lc {wi : TI} {j : Nat} {N : Nat → Prop} (hi : DeI (fs a) wi ρ N) (hN : ∀ n, N n → n ≤ 40000) (he : ∀ i : Nat, DeE (fs a) te ((wpE ρ [j]).set j (some (.d (.int i)))) S) : DeE (fs a) (tLc wi (gName j) tYes te [j]) ρ (fun d => ∃ n ds, N n ∧ ds.length = n ∧ (∀ d ∈ ds, S d) ∧ d = .list ds) := fun M σ H m e s Q q =>
  ee_lcD hi hN he M σ H m e s Q fun n ds D xs H2 hn hl hS hD hxs hd x2 m2 s2 => q _ _ H2 ⟨n, ds, hn, hl, hS, rfl⟩ x2 m2 (StOk.less s2 (fun b h => .inl h) s.1) (.lst (m.new hD) hxs (hd.less fun b h => .inl h))
end
/-! ### a list of the def's own beside the stream -/
structure StP (M : Mt) (a p : Addr) (H : Hp) (ds : List PyData) : Prop where
  st : StOk M a H
  mp : M p
  ne : a ≠ p
  at_ : ∃ xs, H p = some (.lst xs) ∧ DtL M H xs ds
theorem StP.put {M : Mt} {a p : Addr} {H : Hp} {ds ds' : List PyData} {xs : List V} (h : StP M a p H ds) (d : DtL M H xs ds') : StP M a p (upd H p (.lst xs)) ds' := ⟨h.st.put h.mp h.ne, h.mp, h.ne, xs, upd_same, d.xt (Xt.upd .refl h.mp)⟩
def fp (a p : Addr) (ds : List PyData) : Fr a := ⟨fun M H => StP M a p H ds, StP.st, fun h e => by
  obtain ⟨xs, h1, h2⟩ := h.at_
  exact ⟨h.st.ex e, h.mp, h.ne, xs, e _ _ h1, h2.ex e⟩, fun h x s => by
  obtain ⟨xs, h1, h2⟩ := h.at_
  exact ⟨s, h.mp, h.ne, xs, x p _ (Ne.symm h.ne) h1, h2.xt (x.xt h.st.1)⟩⟩
def Xw (a p : Addr) (H H' : Hp) : Prop := ∀ b o, b ≠ a → b ≠ p → H b = some o → H' b = some o
theorem Xw.of {a p : Addr} {H H' : Hp} (x : Xq a H H') : Xw a p H H' := fun b o h _ e => x b o h e
theorem Xw.refl {a p : Addr} {H : Hp} : Xw a p H H := fun _ _ _ _ h => h
theorem Xw.trans {a p : Addr} {H H1 H2 : Hp} (x : Xw a p H H1) (y : Xw a p H1 H2) : Xw a p H H2 := fun b o h h' e => y b o h h' (x b o h h' e)
theorem Xw.put {a p : Addr} {H H1 : Hp} {o : HO} (x : Xw a p H H1) : Xw a p H (upd H1 p o) := fun b u h h' e => by rw [upd_ne h']; exact x b u h h' e
theorem Xw.xt {M : Mt} {a p : Addr} {H H' : Hp} (x : Xw a p H H') (h : M a) (h' : M p) : Xt M H H' := fun b o n e => x b o (fun z => n (z ▸ h)) (fun z => n (z ▸ h')) e
def DeP (a p : Addr) (t : TS) (ρ : Ev) (ds : List PyData) (G : Ev → List PyData → Prop) (R : PyData → Prop) : Prop := ∀ M σ H, Mok M H → EnvR M H σ ρ → StP M a p H ds → ∀ Dn : Ends, (∀ ρ' ds' σ' H2, G ρ' ds' → Xw a p H H2 → Mok M H2 → StP M a p H2 ds' → EnvR M H2 σ' ρ' → Dn.nx σ' H2) →
  (∀ d v H2, R d → Xw a p H H2 → Mok M H2 → StOk M a H2 → Dt M H2 v d → Dn.rt v H2) → t Dn σ H
section
variable {a p : Addr} {K : PySem.W.Frag} {ρ ρ1 : Ev} {ta tb te : TE} {tt tu : TT} {t u : TS} {x y z d : PyData} {ds ds1 : List PyData} {R : PyData → Prop} {G G2 : Ev → List PyData → Prop} {j : Nat}
theorem ee_lenP (hj : ρ[j]? = some (some (.r (.ref p)))) : DeE (fp a p ds) (tCB (fun xs H Q => ∃ p ys, xs = [.ref p] ∧ (SqL K H p ys ∨ SqT K H p ys) ∧ Q (.int ys.length) H) (tCons (tVar j) tNil)) ρ (· = .int ds.length) := fun M σ H m e s Q q => by
  obtain ⟨o, ho, hr⟩ := e.at_ j _ hj
  obtain rfl : o = some (V.ref p) := hr
  have s' : StP M a p H ds := s
  obtain ⟨xs, h1, h2⟩ := s'.at_
  refine ⟨_, ho, p, xs, rfl, .inl (SqL.of h1), ?_⟩
  rw [h2.length]
  exact q _ _ H rfl .refl m s (.int _)
theorem ee_atP {k : Nat} (hj : ρ[j]? = some (some (.r (.ref p)))) (hk : ds[k]? = some d) : DeE (fp a p ds) (tOp (rIxL K) (tVar j) (tC (.int (k : Int)))) ρ (· = d) := fun M σ H m e s Q q => by
  obtain ⟨o, ho, hr⟩ := e.at_ j _ hj
  obtain rfl : o = some (V.ref p) := hr
  have s' : StP M a p H ds := s
  obtain ⟨xs, h1, h2⟩ := s'.at_
  obtain ⟨v, hv, dv⟩ := h2.get hk
  exact ⟨_, ho, p, xs, k, v, rfl, rfl, SqL.of h1, atI_nat hv, q _ _ H rfl .refl m s dv⟩
theorem ep_of {G : Ev → Prop} (h : DeS (fp a p ds) t ρ G R) : DeP a p t ρ ds (fun ρ' ds' => G ρ' ∧ ds' = ds) R := fun M σ H m e s Dn q r =>
  h M σ H m e s Dn (fun ρ' σ' H2 g x m2 s2 e2 => q ρ' ds σ' H2 ⟨g, rfl⟩ (.of x) m2 s2 e2) fun d v H2 hd x m2 s2 d2 => r d v H2 hd (.of x) m2 (StP.st s2) d2
theorem ep_seq (h1 : DeP a p t ρ ds G R) (h2 : ∀ ρ1 ds1, G ρ1 ds1 → DeP a p u ρ1 ds1 G2 R) : DeP a p (tSeq t u) ρ ds G2 R := fun M σ H m e s Dn q r =>
  h1 M σ H m e s _ (fun ρ1 ds1 σ1 H1 g x1 m1 s1 e1 => h2 ρ1 ds1 g M σ1 H1 m1 e1 s1 Dn (fun ρ2 ds2 σ2 H2 g2 x2 => q ρ2 ds2 σ2 H2 g2 (x1.trans x2)) fun d v H2 hd x2 => r d v H2 hd (x1.trans x2)) r
theorem ep_if {t1 t2 : TS} {S1 : Bool → Prop} (h : DeB (fp a p ds) tt ρ S1) (h1 : S1 true → DeP a p t1 ρ ds G R) (h2 : S1 false → DeP a p t2 ρ ds G R) : DeP a p (tIfS tt t1 t2) ρ ds G R := fun M σ H m e s Dn q r =>
  h M σ H m e s _ fun b H1 sb x1 m1 s1 => by
    have e1 : EnvR M H1 σ ρ := e.xt (x1.xt (StP.st s).1)
    cases b with
    | true => exact iteT (h1 sb M σ H1 m1 e1 s1 Dn (fun ρ2 ds2 σ2 H2 g2 x2 => q ρ2 ds2 σ2 H2 g2 ((Xw.of x1).trans x2)) fun d v H2 hd x2 => r d v H2 hd ((Xw.of x1).trans x2))
    | false => exact iteF (h2 sb M σ H1 m1 e1 s1 Dn (fun ρ2 ds2 σ2 H2 g2 x2 => q ρ2 ds2 σ2 H2 g2 ((Xw.of x1).trans x2)) fun d v H2 hd x2 => r d v H2 hd ((Xw.of x1).trans x2))
theorem ep_next : DeP a p tNext ρ ds (fun ρ' ds' => ρ' = ρ ∧ ds' = ds) R := fun M σ H m e s Dn q _ => q ρ ds σ H ⟨rfl, rfl⟩ .refl m s e
theorem ep_imp (h : DeP a p t ρ ds G R) (i : ∀ ρ' ds', G ρ' ds' → ∃ ρ2, LeE ρ' ρ2 ∧ G2 ρ2 ds') : DeP a p t ρ ds G2 R := fun M σ H m e s Dn q r => h M σ H m e s Dn (fun ρ1 ds1 σ1 H1 g x1 m1 s1 e1 => by
  obtain ⟨ρ2, l, g2⟩ := i ρ1 ds1 g
  exact q ρ2 ds1 σ1 H1 g2 x1 m1 s1 (e1.le l)) r
theorem ep_app (hj : ρ[j]? = some (some (.r (.ref p)))) (h : Den te ρ d) (hl : ds.length < 100000) : DeP a p (tDrop (tBM K "list" rAppend (tVar j) (tCons te tNil))) ρ ds (fun ρ' ds' => ρ' = ρ ∧ ds' = ds ++ [d]) R := fun M σ H m e s Dn q _ => by
  obtain ⟨o, ho, hr⟩ := e.at_ j _ hj
  obtain rfl : o = some (V.ref p) := hr
  obtain ⟨xs, h1, h2⟩ := s.at_
  refine ⟨_, ho, .inl ⟨rfl, xs, SqL.of h1⟩, h M σ H m e _ fun v H2 e2 d2 => ?_⟩
  have s2 : StP M a p H2 ds := (fp a p ds).ex s e2
  have h3 := h2.ex e2
  refine ⟨p, xs, v, rfl, rfl, e2 _ _ h1, Evl.sz_lt (by rw [h2.length]; exact hl), ?_⟩
  exact q ρ _ σ _ ⟨rfl, rfl⟩ (Xw.put (.of (.of e2))) (Mok.upd (m.ex e2)) (s2.put (h3.app (.one d2))) ((e.ex e2).xt (Xt.upd .refl s.mp))
/-- x = parts.pop(k) -/
theorem DtL.erase {M : Mt} {H : Hp} : ∀ {ds : List PyData} {xs : List V} {k : Nat}, DtL M H xs ds → DtL M H (xs.eraseIdx k) (ds.eraseIdx k)
  | _, _, _, .nil => .nil
  | _, _, 0, .cons _ r => r
  | _, _, k + 1, .cons h r => .cons h r.erase
theorem DtL.take {M : Mt} {H : Hp} : ∀ {ds : List PyData} {xs : List V} (k : Nat), DtL M H xs ds → DtL M H (xs.take k) (ds.take k)
  | _, _, _, .nil => by simpa using DtL.nil
  | _, _, 0, .cons _ r => .nil
  | _, _, k + 1, .cons h r => .cons h (r.take k)
theorem DtL.drop {M : Mt} {H : Hp} : ∀ {ds : List PyData} {xs : List V} (k : Nat), DtL M H xs ds → DtL M H (xs.drop k) (ds.drop k)
  | _, _, _, .nil => by simpa using DtL.nil
  | _, _, 0, .cons h r => .cons h r
  | _, _, k + 1, .cons h r => r.drop k
theorem seqAt {k n : Nat} (h : k < n) : seqIndex? (k : Int) n = some k := by
  rw [seqIndex_of (by omega) (by omega), Int.toNat_natCast]
theorem ep_pop {i k : Nat} (hj : ρ[j]? = some (some (.r (.ref p)))) (h : Den te ρ (.int (k : Int))) (hk : ds[k]? = some d) (hl : ds.length ≤ 1000) : DeP a p (tAsg (tBM K "list" rPopAt (tVar j) (tCons te tNil)) (gName i)) ρ ds (fun ρ' ds' => ρ' = ρ.set i (some (.d d)) ∧ ds' = ds.eraseIdx k) R := fun M σ H m e s Dn q _ => by
  obtain ⟨o, ho, hr⟩ := e.at_ j _ hj
  obtain rfl : o = some (V.ref p) := hr
  obtain ⟨xs, h1, h2⟩ := s.at_
  refine ⟨_, ho, .inl ⟨rfl, xs, SqL.of h1⟩, h M σ H m e _ fun v H2 e2 d2 => ?_⟩
  cases d2
  have s2 : StP M a p H2 ds := (fp a p ds).ex s e2
  have h3 := h2.ex e2
  obtain ⟨v, hv, dv⟩ := h3.get hk
  have kl : k < xs.length := (List.getElem?_eq_some_iff.mp hv).1
  have xl : xs.length ≤ 1000 := by rw [h2.length]; exact hl
  refine ⟨p, xs, k, k, v, rfl, rfl, e2 _ _ h1, by omega, by omega, seqAt kl, hv, ?_⟩
  exact q _ _ _ _ ⟨rfl, rfl⟩ (Xw.put (.of (.of e2))) (Mok.upd (m.ex e2)) (s2.put h3.erase) (((e.ex e2).xt (Xt.upd .refl s.mp)).set i ⟨v, rfl, dv.xt (Xt.upd .refl s.mp)⟩)
theorem ep_ins {k : Nat} (hj : ρ[j]? = some (some (.r (.ref p)))) (h : Den ta ρ (.int (k : Int))) (h' : Den tb ρ d) (hk : k ≤ 1000) (hl : ds.length ≤ 1000) : DeP a p (tDrop (tBM K "list" (fun x vs H Q => ∃ (l : Addr) (xs : List V) (i : Int) (y : V), x = .ref l ∧ vs = [.int i, y] ∧ H l = some (.lst xs) ∧ xs.length < sizeLine ∧ 0 ≤ i ∧ i < 2 ^ 63 ∧
    Q .non (upd H l (.lst (xs.take i.toNat ++ [y] ++ xs.drop i.toNat)))) (tVar j) (tCons ta (tCons tb tNil)))) ρ ds (fun ρ' ds' => ρ' = ρ ∧ ds' = ds.take k ++ [d] ++ ds.drop k) R := fun M σ H m e s Dn q _ => by
  obtain ⟨o, ho, hr⟩ := e.at_ j _ hj
  obtain rfl : o = some (V.ref p) := hr
  obtain ⟨xs, h1, h2⟩ := s.at_
  refine ⟨_, ho, .inl ⟨rfl, xs, SqL.of h1⟩, h M σ H m e _ fun v H2 e2 d2 => h' M σ H2 (m.ex e2) (e.ex e2) _ fun y H3 e3 d3 => ?_⟩
  cases d2
  have e23 := e2.trans e3
  have s2 : StP M a p H3 ds := (fp a p ds).ex s e23
  have h3 := h2.ex e23
  refine ⟨p, xs, k, y, rfl, rfl, e23 _ _ h1, Evl.sz_lt (by rw [h2.length]; omega), by omega, by omega, ?_⟩
  rw [Int.toNat_natCast]
  exact q _ _ _ _ ⟨rfl, rfl⟩ (Xw.put (.of (.of e23))) (Mok.upd (m.ex e23)) (s2.put (((h3.take k).app (.one d3)).app (h3.drop k))) ((e.ex e23).xt (Xt.upd .refl s.mp))
theorem ep_for {wi : TI} {g : TG} {js : List Nat} {N : Nat → Prop} (I : Nat → Ev → List PyData → Prop) (hi : DeI (fp a p ds) wi ρ N) (h0 : I 0 ρ ds) (hb : ∀ (n i : Nat) (ρ0 : Ev) (ds0 : List PyData), N n → i < n → I i ρ0 ds0 → ∃ ρ1, DenG g (.int i) ρ0 ρ1 js ∧ DeP a p t ρ1 ds0 (I (i + 1)) R) :
    DeP a p (tFor wi g t) ρ ds (fun ρ' ds' => ∃ n, N n ∧ I n ρ' ds') R := fun M σ H m e s Dn q r => by
  refine hi M σ H m e s _ fun n J H1 hn x1 m1 s1 hJ => ?_
  have ul : (ups n).length = n := by simp [ups]
  refine ⟨fun i m' σ' H' => i + m' = n ∧ ∃ ρ' ds', I i ρ' ds' ∧ Xw a p H H' ∧ Xw a p H1 H' ∧ Mok M H' ∧ StP M a p H' ds' ∧ EnvR M H' σ' ρ', ⟨n, by omega, ρ, ds, h0, .of x1, .refl, m1, s1, e.xt (x1.xt s.st.1)⟩, ?_⟩
  rintro i m' σ' H2 ⟨hm, ρ0, ds0, i0, x2, x2', m2, s2, e2⟩
  obtain ⟨go, st⟩ := hJ M H2 ⟨fun _ h => .inl h, x2'.xt s.st.1 s.mp⟩
  by_cases hi' : i < n
  · have hdi : (ups n)[i]? = some (.int i) := by
      unfold ups
      rw [List.getElem?_map, List.getElem?_range hi']
      rfl
    obtain ⟨gg, yl⟩ := go i _ hdi
    obtain ⟨ρ1, hg, hs⟩ := hb n i ρ0 ds0 hn hi' i0
    refine .inr ⟨gg, fun σ' H' => ∃ ρ' ds', I (i + 1) ρ' ds' ∧ Xw a p H H' ∧ Xw a p H1 H' ∧ Mok M H' ∧ StP M a p H' ds' ∧ EnvR M H' σ' ρ', fun σ' H' hN => ⟨m' - 1, by omega, by omega, hN⟩, fun x H3 hx => ?_⟩
    obtain ⟨ex3, dx⟩ := yl x H3 hx
    refine hg M σ' H3 x (m2.ex ex3) (e2.ex ex3) dx _ fun σ3 _ e3 => ?_
    exact hs M σ3 H3 (m2.ex ex3) e3 ((fp a p ds0).ex s2 ex3) _ (fun ρ4 ds4 σ4 H4 g4 x4 m4 s4 e4 => ⟨ρ4, ds4, g4, x2.trans ((Xw.of (.of ex3)).trans x4), x2'.trans ((Xw.of (.of ex3)).trans x4), m4, s4, e4⟩) fun d v H4 hd x4 m4 s4 d4 => r d v H4 hd (x2.trans ((Xw.of (.of ex3)).trans x4)) m4 s4 d4
  · have ei : i = n := by omega
    subst ei
    rw [ul] at st
    exact .inl ⟨st, q ρ0 ds0 σ' H2 ⟨i, hn, i0⟩ x2 m2 s2 e2⟩
/-- parts = [.. for k in range(..)], then a block over it -/
theorem es_ownL {te : TE} {wi : TI} {jk : Nat} {N : Nat → Prop} {S : PyData → Prop} {G : Ev → Prop} (hi : DeI (fs a) wi ρ N) (hN : ∀ n, N n → n ≤ 40000) (he : ∀ i : Nat, DeE (fs a) te ((wpE ρ [jk]).set jk (some (.d (.int i)))) S)
    (hr : ∀ p n ds, N n → ds.length = n → (∀ d ∈ ds, S d) → DeP a p t (ρ.set j (some (.r (.ref p)))) ds (fun _ _ => False) R) : DeS (fs a) (tSeq (tAsg (tLc wi (gName jk) tYes te [jk]) (gName j)) t) ρ G R := fun M σ H m e s Dn q r => by
  have all := ee_lcD hi hN he M σ H m e s
  generalize tLc wi (gName jk) tYes te [jk] = T at all ⊢
  refine all _ fun n ds D xs H2 hn hl hS hD hxs hd x2 m2 s2 => ?_
  have nD := m.new hD
  have aD : a ≠ D := fun z => nD (z ▸ s.1)
  have g : Grw M H (fun b => M b ∨ b = D) H2 := ⟨fun b hb => hb.elim .inl fun z => .inr (z ▸ hD), x2.xt (.inl s.1)⟩
  have mk : Mok (fun b => M b ∨ b = D) H2 := fun b hb z => hb.elim (fun h => m2 b h z) fun h => by rw [h, hxs] at z; cases z
  refine hr D n ds hn hl hS (fun b => M b ∨ b = D) _ H2 mk ((e.grw g).set (s := .r (.ref D)) j rfl) ⟨s2, .inr rfl, aD, xs, hxs, hd⟩ Dn (fun _ _ _ _ f => f.elim) fun d v H3 hd x3 m3 s3 d3 => ?_
  · refine r d v H3 hd (fun b o hb hh => x3 b o hb (fun z => ?_) (x2 b o hb hh)) (fun b hb => m3 b (.inl hb)) (s3.less (fun b h => .inl h) s.1) (d3.less fun b h => .inl h)
    rw [z, hD] at hh
    cases hh
end
/-- the promise shown -/
theorem len_S {Pre : List PyData → (PyData → Prop) → Prop} {n : Nat} (h : ∀ ds S, Pre ds S → ds.length = n) : ∀ vs H Q E, SpN Pre vs H Q E → vs.length = n + 1 := by
  rintro vs H Q E ⟨M, a, us, ds, S, m, rfl, r, s, p, q⟩
  rw [List.length_cons, r.length, h ds S p]
/-- the first slots: the stream, then data -/
def stN (a : Addr) (N : List Str) (ds : List PyData) : Ev := some (.r (.ref a)) :: (ds.map fun d => some (.d d)) ++ List.replicate (N.length - (ds.length + 1)) none
theorem envN {M : Mt} {H : Hp} {a : Addr} {us : List V} {ds : List PyData} {N : List Str} (h : DtL M H us ds) : EnvR M H (L2.start N (.ref a :: us)) (stN a N ds) := by
  have e := env0 (N := N) (M := M) (H := H) (vs := .bl true :: us) (ds := .bool true :: ds) (.cons (.bl true) h)
  refine ⟨?_, fun i s q => ?_⟩
  · have := e.len
    simp [L2.start, st0, stN] at this ⊢
    omega
  · cases i with
    | zero =>
      cases q
      exact ⟨_, rfl, rfl⟩
    | succ i =>
      have := e.at_ (i + 1) s q
      exact this
theorem run_S {Pre : List PyData → (PyData → Prop) → Prop} {t : TS} {N : List Str} {vs : List V} {H : Hp} {Q : VK} {E : XK} (h : SpN Pre vs H Q E) (hd : ∀ a ds S, Pre ds S → DeS (fs a) t (stN a N ds) (fun _ => False) S) : t { nx := fun _ H' => Q .non H', rt := Q } (L2.start N vs) H := by
  obtain ⟨M, a, us, ds, S, m, rfl, r, s, p, q⟩ := h
  exact hd a ds S p M _ H m (envN r) s _ (fun _ _ _ g => g.elim) fun d v H2 sd x m2 s2 d2 => q d v H2 sd x m2 s2 d2
end Nd
set_option Elab.async false
set_option linter.all false
set_option maxRecDepth 100000
set_option maxHeartbeats 4000000
namespace Nd
open PySem PySem.Spec PyProof.Rows L2
open Evl (Ex Ex.refl Ex.trans Ex.new)
abbrev s_parts_of : Stmt := topS 14
theorem sc_parts_of : FnScope ["expression"] ["expression"] (defScope s_parts_of) := ⟨rfl, rfl, rfl, by decide +kernel, rfl, by decide +kernel, by decide +kernel⟩
theorem bd_parts_of (kV doc pm : Value) (an : Option Addr) (cdv ct : Value) (us : List Value) (hl : us.length = (["expression"] : List Str).length) : bindArgs (PySem.W.fnOf "parts_of" "parts_of" (defArgs s_parts_of) (defBody s_parts_of) (defScope s_parts_of) .none kV doc pm an cdv ct) ⟨us, []⟩ = pure ((["expression"] : List Str).zip us) :=
  match us, hl with | [_], _ => rfl
abbrev s_letters_of : Stmt := topS 15
theorem sc_letters_of : FnScope ["expression", "part"] ["expression"] (defScope s_letters_of) := ⟨rfl, rfl, rfl, by decide +kernel, rfl, by decide +kernel, by decide +kernel⟩
theorem bd_letters_of (kV doc pm : Value) (an : Option Addr) (cdv ct : Value) (us : List Value) (hl : us.length = (["expression"] : List Str).length) : bindArgs (PySem.W.fnOf "letters_of" "letters_of" (defArgs s_letters_of) (defBody s_letters_of) (defScope s_letters_of) .none kV doc pm an cdv ct) ⟨us, []⟩ = pure ((["expression"] : List Str).zip us) :=
  match us, hl with | [_], _ => rfl
abbrev s_count_of : Stmt := topS 16
theorem sc_count_of : FnScope ["expression", "part"] ["expression"] (defScope s_count_of) := ⟨rfl, rfl, rfl, by decide +kernel, rfl, by decide +kernel, by decide +kernel⟩
theorem bd_count_of (kV doc pm : Value) (an : Option Addr) (cdv ct : Value) (us : List Value) (hl : us.length = (["expression"] : List Str).length) : bindArgs (PySem.W.fnOf "count_of" "count_of" (defArgs s_count_of) (defBody s_count_of) (defScope s_count_of) .none kV doc pm an cdv ct) ⟨us, []⟩ = pure ((["expression"] : List Str).zip us) :=
  match us, hl with | [_], _ => rfl
abbrev s_is_leaf : Stmt := topS 12
theorem sc_is_leaf : FnScope ["value"] ["value"] (defScope s_is_leaf) := ⟨rfl, rfl, rfl, by decide +kernel, rfl, by decide +kernel, by decide +kernel⟩
theorem bd_is_leaf (kV doc pm : Value) (an : Option Addr) (cdv ct : Value) (us : List Value) (hl : us.length = (["value"] : List Str).length) : bindArgs (PySem.W.fnOf "is_leaf" "is_leaf" (defArgs s_is_leaf) (defBody s_is_leaf) (defScope s_is_leaf) .none kV doc pm an cdv ct) ⟨us, []⟩ = pure ((["value"] : List Str).zip us) :=
  match us, hl with | [_], _ => rfl
abbrev s_has_form : Stmt := topS 13
theorem sc_has_form : FnScope ["value", "outer", "deep", "part"] ["value", "outer", "deep"] (defScope s_has_form) := ⟨rfl, rfl, rfl, by decide +kernel, rfl, by decide +kernel, by decide +kernel⟩
theorem bd_has_form (kV doc pm : Value) (an : Option Addr) (cdv ct : Value) (us : List Value) (hl : us.length = (["value", "outer", "deep"] : List Str).length) : bindArgs (PySem.W.fnOf "has_form" "has_form" (defArgs s_has_form) (defBody s_has_form) (defScope s_has_form) .none kV doc pm an cdv ct) ⟨us, []⟩ = pure ((["value", "outer", "deep"] : List Str).zip us) :=
  match us, hl with | [_, _, _], _ => rfl
abbrev s_has_empty : Stmt := topS 21
theorem sc_has_empty : FnScope ["expression", "told", "part"] ["expression"] (defScope s_has_empty) := ⟨rfl, rfl, rfl, by decide +kernel, rfl, by decide +kernel, by decide +kernel⟩
theorem bd_has_empty (kV doc pm : Value) (an : Option Addr) (cdv ct : Value) (us : List Value) (hl : us.length = (["expression"] : List Str).length) : bindArgs (PySem.W.fnOf "has_empty" "has_empty" (defArgs s_has_empty) (defBody s_has_empty) (defScope s_has_empty) .none kV doc pm an cdv ct) ⟨us, []⟩ = pure ((["expression"] : List Str).zip us) :=
  match us, hl with | [_], _ => rfl
abbrev s__law_letters : Stmt := topS 43
theorem sc__law_letters : FnScope ["_law_expression_here", "_law_part"] ["_law_expression_here"] (defScope s__law_letters) := ⟨rfl, rfl, rfl, by decide +kernel, rfl, by decide +kernel, by decide +kernel⟩
theorem bd__law_letters (kV doc pm : Value) (an : Option Addr) (cdv ct : Value) (us : List Value) (hl : us.length = (["_law_expression_here"] : List Str).length) : bindArgs (PySem.W.fnOf "_law_letters" "_law_letters" (defArgs s__law_letters) (defBody s__law_letters) (defScope s__law_letters) .none kV doc pm an cdv ct) ⟨us, []⟩ = pure ((["_law_expression_here"] : List Str).zip us) :=
  match us, hl with | [_], _ => rfl
theorem not_leaf {e : Xp} (h : ¬ ∃ l, e = .leaf l) : (∀ l, e ≠ .leaf l) ∧ isS (enc e) = false ∧ isTp (enc e) = true := by
  cases e with
  | leaf l => exact absurd ⟨l, rfl⟩ h
  | row j ps => exact ⟨fun l z => (nomatch z), rfl, rfl⟩
  | one m e => exact ⟨fun l z => (nomatch z), rfl, rfl⟩
theorem enc_row (j : Bool) (ps : List Xp) : enc (.row j ps) = .tuple [.str (nmR j), .tuple (ps.map enc)] := by rw [enc, encL_map]
section
variable {P : Program} {w : World} {K : PySem.W.Frag} {mg : Str → Option Value} {base : Heap} {aR aS : Addr}
def pParts (ds : List PyData) (d : PyData) : Prop := ∃ e : Xp, ds = [enc e] ∧ d = .tuple ((parts e).map enc)
theorem cl_parts_of (T : Tx K mg aR aS) : Cl P w K mg base 1 "parts_of" (SpF pParts) := by
  refine mk_cl T.d_parts_of sc_parts_of bd_parts_of (len_F (by rintro ds d ⟨e, rfl, _⟩; rfl)) (fun f cdv A outer s H vs Q E hr h => ?_)
  refine ⟨_, (pss_cons (ps_if (pt_val (pe_callB (k_isi K) (by rfl) T.n_isinstance (by decide +kernel) (pa_cons (pv 0) (pa_cons (pe_bltn (v := .ty "str") (by rfl) T.n_str (by decide +kernel) rfl) pa_nil)))) (pss_one (ps_ret (pe_tup pa_nil))) pss_nil) (pss_one (ps_ret (pe_ifExp (pt_cmpR (k_in K) (pe_ix (k_ixT K) (pv 0) pe_int (fun _ _ => rfl)) (pe_gk (by rfl) T.kSINGLES) (by rfl)) (pe_tup (pa_cons (pe_ix (k_ixT K) (pv 0) pe_int (fun _ _ => rfl)) pa_nil)) (pe_ix (k_ixT K) (pv 0) pe_int (fun _ _ => rfl)))))), ?_⟩
  refine run_F h fun ds d pre => ?_
  obtain ⟨e, rfl, rfl⟩ := pre
  have v0 : (st0 ["expression"] [enc e])[0]? = some (some (.d (enc e))) := rfl
  cases e with
  | leaf l => exact ds_seqR (ds_ifT (dt_B (dn_isS (dn_var v0))) (ds_ret (dn_tup da_nil (Nat.zero_le _))))
  | row j ps =>
    refine ds_seq (ds_ifF (dt_B (dn_isS (dn_var v0))) ds_next) (ds_ret (dn_if (dt_test (dn_single T.sSINGLES (dn_var v0) (fun l z => nomatch z))) (fun z => nomatch z) fun _ => ?_))
    rw [enc_row] at v0 ⊢
    exact dn_ixT (dn_var v0) rfl
  | one m e =>
    refine ds_seq (ds_ifF (dt_B (dn_isS (dn_var v0))) ds_next) (ds_ret (dn_if (dt_test (dn_single T.sSINGLES (dn_var v0) (fun l z => nomatch z))) (fun _ => ?_) fun z => nomatch z))
    exact dn_tup (da_cons (dn_ixT (dn_var v0) rfl) da_nil) (by show 1 ≤ 100000; decide)
def pLet (n : Nat) (ds : List PyData) (d : PyData) : Prop := ∃ e : Xp, dp e < n ∧ Ok e ∧ ds = [enc e] ∧ d = .str (Sx (lt e))
theorem cl_letters_of (T : Tx K mg aR aS) : ∀ n, Cl P w K mg base (n + 2) "letters_of" (SpF (pLet n))
  | 0 => cl_none T.d_letters_of bd_letters_of (no_F (by rintro ds d ⟨e, h, _⟩; omega))
  | n + 1 => by
    have c_letters_of := cl_letters_of T n
    have c_parts_of := cl_parts_of (P := P) (w := w) (base := base) T
    refine mk_cl T.d_letters_of sc_letters_of bd_letters_of (len_F (by rintro ds d ⟨e, _, _, rfl, _⟩; rfl)) (fun f cdv A outer s H vs Q E hr h => ?_)
    refine ⟨_, (pss_cons (ps_if (pt_val (pe_callB (k_isi K) (by rfl) T.n_isinstance (by decide +kernel) (pa_cons (pv 0) (pa_cons (pe_bltn (v := .ty "str") (by rfl) T.n_str (by decide +kernel) rfl) pa_nil)))) (pss_one (ps_ret (pv 0))) pss_nil) (pss_one (ps_ret (k_join K pe_str (pe_lc (own := [("part", 1)]) rfl sc_letters_of.nd (k_piT K (pe_cl c_parts_of hr (by first | decide | omega) (by rfl) (pa_cons (pv 0) pa_nil))) (blkOk_by (N := ["expression", "part"]) (sc := defScope s_letters_of) (own := [("part", 1)]) (by decide +kernel)) (fun _ _ _ _ _ => (pg_name (i := 1) sc_letters_of.nd rfl (Or.inl rfl))) (fun _ _ _ _ _ => pts_nil) (fun _ _ _ _ _ => (pe_cl c_letters_of hr (by first | decide | omega) (by rfl) (pa_cons (pv 1) pa_nil)))))))), ?_⟩
    refine run_F h fun ds d pre => ?_
    obtain ⟨e, hd, ok, rfl, rfl⟩ := pre
    have v0 : (st0 ["expression", "part"] [enc e])[0]? = some (some (.d (enc e))) := rfl
    by_cases hl : ∃ l, e = .leaf l
    · obtain ⟨l, rfl⟩ := hl
      exact ds_seqR (ds_ifT (dt_B (dn_isS (dn_var v0))) (ds_ret (dn_var v0)))
    · obtain ⟨hl', hS, hT⟩ := not_leaf hl
      refine ds_seq (ds_ifF (dt_B ((dn_isS (dn_var v0)).is (by rw [hS]))) ds_next) (ds_ret ?_)
      rw [lt_parts e hl']
      refine dn_join0 (lls := (parts e).map lt) ?_ ?_ ?_
      · rw [List.map_map]
        refine dn_lcY (parts e) enc (fun p => .str (Sx (lt p))) (fun p => [some (.d (enc e)), some (.d (enc p))]) (di_tup (dn_call (da_cons (dn_var v0) da_nil) ⟨e, rfl, rfl⟩)) (fun p hp => dg_name) (fun p hp => ?_) (by have := ok.len; omega)
        obtain ⟨ok', hd'⟩ := ok.parts hp
        exact dn_call (da_cons (dn_var rfl) da_nil) ⟨p, by omega, ok', rfl, rfl⟩
      · rw [← lt_parts e hl']; have := ok.l; omega
      · rw [List.length_map]; have := ok.len; omega
def pCnt (n : Nat) (ds : List PyData) (d : PyData) : Prop := ∃ e : Xp, dp e < n ∧ Ok e ∧ ds = [enc e] ∧ d = .int (cnt e)
theorem cl_count_of (T : Tx K mg aR aS) : ∀ n, Cl P w K mg base (n + 2) "count_of" (SpF (pCnt n))
  | 0 => cl_none T.d_count_of bd_count_of (no_F (by rintro ds d ⟨e, h, _⟩; omega))
  | n + 1 => by
    have c_count_of := cl_count_of T n
    have c_parts_of := cl_parts_of (P := P) (w := w) (base := base) T
    refine mk_cl T.d_count_of sc_count_of bd_count_of (len_F (by rintro ds d ⟨e, _, _, rfl, _⟩; rfl)) (fun f cdv A outer s H vs Q E hr h => ?_)
    refine ⟨_, (pss_one (ps_ret (pe_op op_add pe_int (pe_callB (k_sum K rfl) (by rfl) T.n_sum (by decide +kernel) (pa_cons (pe_lc (own := [("part", 1)]) rfl sc_count_of.nd (k_piT K (pe_cl c_parts_of hr (by first | decide | omega) (by rfl) (pa_cons (pv 0) pa_nil))) (blkOk_by (N := ["expression", "part"]) (sc := defScope s_count_of) (own := [("part", 1)]) (by decide +kernel)) (fun _ _ _ _ _ => (pg_name (i := 1) sc_count_of.nd rfl (Or.inl rfl))) (fun _ _ _ _ _ => pts_nil) (fun _ _ _ _ _ => (pe_cl c_count_of hr (by first | decide | omega) (by rfl) (pa_cons (pv 1) pa_nil)))) pa_nil))))), ?_⟩
    refine run_F h fun ds d pre => ?_
    obtain ⟨e, hd, ok, rfl, rfl⟩ := pre
    have v0 : (st0 ["expression", "part"] [enc e])[0]? = some (some (.d (enc e))) := rfl
    refine ds_ret ((dn_op dn_int (dn_cb (da_cons ?_ da_nil) (rc_sum (ns := (parts e).map fun p => (cnt p : Int)))) rd_add).is ?_)
    · rw [List.map_map]
      refine dn_lcY (parts e) enc (fun p => .int (cnt p)) (fun p => [some (.d (enc e)), some (.d (enc p))]) (di_tup (dn_call (da_cons (dn_var v0) da_nil) ⟨e, rfl, rfl⟩)) (fun p hp => dg_name) (fun p hp => ?_) (by have := ok.len; omega)
      obtain ⟨ok', hd'⟩ := ok.parts hp
      exact dn_call (da_cons (dn_var rfl) da_nil) ⟨p, by omega, ok', rfl, rfl⟩
    · have h : ∀ ps : List Xp, (ps.map fun p => (cnt p : Int)).sum = (((ps.map cnt).sum : Nat) : Int) := by
        intro ps
        induction ps with
        | nil => rfl
        | cons a r ih => rw [List.map_cons, List.sum_cons, ih, List.map_cons, List.sum_cons]; omega
      rw [cnt_parts e, h]
      congr 1
/-- is_leaf -/
def lfB : Xp → Bool
  | .leaf _ => true
  | _ => false
def pLeaf (ds : List PyData) (d : PyData) : Prop := ∃ e : Xp, wf e = true ∧ ds = [enc e] ∧ d = .bool (lfB e)
theorem abcd_is : ("abcd" : Str) = Sx [97, 98, 99, 100] := by decide +kernel
theorem empty_is : ("" : Str) = Sx [] := by decide +kernel
theorem Sx_inj {a b : List Nat} : Sx a = Sx b ↔ a = b := ⟨fun h => SX.S_inj h, fun h => by rw [h]⟩
theorem cl_is_leaf (T : Tx K mg aR aS) : Cl P w K mg base 1 "is_leaf" (SpF pLeaf) := by
  refine mk_cl T.d_is_leaf sc_is_leaf bd_is_leaf (len_F (by rintro ds d ⟨e, _, rfl, _⟩; rfl)) (fun f cdv A outer s H vs Q E hr h => ?_)
  refine ⟨_, (pss_one (ps_ret (pe_and (pe_callB (k_isi K) (by rfl) T.n_isinstance (by decide +kernel) (pa_cons (pv 0) (pa_cons (pe_bltn (v := .ty "str") (by rfl) T.n_str (by decide +kernel) rfl) pa_nil))) (pe_one (pe_or (pe_cmpR op_eq (pv 0) pe_str (nomark _)) (pe_one (pe_and (pe_cmpR op_eq (pe_callB call_len_str (by rfl) T.n_len PySem.boot_len (pa_cons (pv 0) pa_nil)) pe_int (nomark _)) (pe_one (pe_cmpR op_in_str (pv 0) (pe_gk (by rfl) T.kLETTERS) (by rfl)))))))))), ?_⟩
  refine run_F h fun ds d pre => ?_
  obtain ⟨e, wfe, rfl, rfl⟩ := pre
  have v0 : (st0 ["value"] [enc e])[0]? = some (some (.d (enc e))) := rfl
  by_cases hl : ∃ l, e = .leaf l
  · obtain ⟨l, rfl⟩ := hl
    have hw : l = [] ∨ ∃ c, l = [c] ∧ c ∈ [97, 98, 99, 100] := by
      rw [wf, Bool.or_eq_true, Bool.and_eq_true] at wfe
      rcases wfe with z | ⟨z1, z2⟩
      · exact .inl (List.isEmpty_iff.mp z)
      · have z1 : l.length = 1 := by simpa using z1
        obtain ⟨c, rfl⟩ := List.length_eq_one_iff.mp z1
        have z2 : 97 ≤ c ∧ c ≤ 100 := by simpa using z2
        refine .inr ⟨c, rfl, ?_⟩
        simp
        omega
    refine ds_ret ((dn_andV (b := true) (dn_isS (dn_var v0)) fun _ => ?_).is rfl)
    rcases hw with rfl | ⟨c, rfl, hc⟩
    · refine (dn_orV (b := true) ((dn_op (dn_var v0) dn_str rd_eqS).is (by rw [empty_is])) fun z => ?_).is (by rw [Bool.or_true])
      simp at z
    · refine (dn_orV (b := true) (dn_op (dn_var v0) dn_str rd_eqS) fun z => ?_).is (by rw [Bool.or_true])
      refine (dn_andV (b := true) (dn_op (dn_cb (da_cons (dn_var v0) da_nil) (rc_lenS (by rw [len_Sx]; show 1 ≤ 100000; decide))) dn_int rd_eqI) fun _ => ?_).is ?_
      · refine (dn_op (dn_var v0) dn_str rd_inS).is ?_
        rw [abcd_is]
        have := SX.in_one [97, 98, 99, 100] c
        rw [this, decide_eq_true hc]
      · rw [len_Sx]; rfl
  · obtain ⟨hl', hS, hT⟩ := not_leaf hl
    refine ds_ret ((dn_andV (a := false) (b := true) ((dn_isS (dn_var v0)).is (by rw [hS])) fun z => nomatch z).is ?_)
    cases e with
    | leaf l => exact absurd rfl (hl' l)
    | row j ps => rfl
    | one m e => rfl
/-- has_form: the outer row's word -/
def pForm (n : Nat) (ds : List PyData) (d : PyData) : Prop := ∃ (e : Xp) (o : Str) (k : Nat), dp e < n ∧ dp e ≤ k ∧ Ok e ∧ (∀ j, isR j e = true → o ≠ nmR j) ∧ ds = [enc e, .str o, .int k] ∧ d = .bool true
theorem cl_has_form (T : Tx K mg aR aS) : ∀ n, Cl P w K mg base (n + 2) "has_form" (SpF (pForm n))
  | 0 => cl_none T.d_has_form bd_has_form (no_F (by rintro ds d ⟨e, o, k, h, _⟩; omega))
  | n + 1 => by
    have c_has_form := cl_has_form T n
    have c_is_leaf := cl_is_leaf (P := P) (w := w) (base := base) T
    refine mk_cl T.d_has_form sc_has_form bd_has_form (len_F (by rintro ds d ⟨e, o, k, _, _, _, _, rfl, _⟩; rfl)) (fun f cdv A outer s H vs Q E hr h => ?_)
    refine ⟨_, (pss_cons (ps_if (pt_val (pe_cl c_is_leaf hr (by first | decide | omega) (by rfl) (pa_cons (pv 0) pa_nil))) (pss_one (ps_ret pe_bl)) pss_nil) (pss_cons (ps_if (PW.pt (pw_or (pt_cmpR op_eq (pv 2) pe_int (nomark _)) (pw_or (pt_not (pt_val (pe_callB (k_isi K) (by rfl) T.n_isinstance (by decide +kernel) (pa_cons (pv 0) (pa_cons (pe_bltn (v := .ty "tuple") (by rfl) T.n_tuple (by decide +kernel) rfl) pa_nil))))) (pw_or (pt_cmpR op_ne (pe_callB (k_len K) (by rfl) T.n_len PySem.boot_len (pa_cons (pv 0) pa_nil)) pe_int (nomark _)) (pw_or1 (pt_not (pt_val (pe_callB (k_isi K) (by rfl) T.n_isinstance (by decide +kernel) (pa_cons (pe_ix (k_ixT K) (pv 0) pe_int (fun _ _ => rfl)) (pa_cons (pe_bltn (v := .ty "str") (by rfl) T.n_str (by decide +kernel) rfl) pa_nil)))))))))) (pss_one (ps_ret pe_bl)) pss_nil) (pss_cons (ps_if (pt_cmpR (k_in K) (pe_ix (k_ixT K) (pv 0) pe_int (fun _ _ => rfl)) (pe_gk (by rfl) T.kSINGLES) (by rfl)) (pss_one (ps_ret (pe_cl c_has_form hr (by first | decide | omega) (by rfl) (pa_cons (pe_ix (k_ixT K) (pv 0) pe_int (fun _ _ => rfl)) (pa_cons pe_str (pa_cons (pe_op op_sub (pv 2) pe_int) pa_nil)))))) pss_nil) (pss_cons (ps_if (PW.pt (pw_or (pt_cmpR (k_notIn K) (pe_ix (k_ixT K) (pv 0) pe_int (fun _ _ => rfl)) (pe_gk (by rfl) T.kROWS) (by rfl)) (pw_or (pt_cmpR op_eq (pe_ix (k_ixT K) (pv 0) pe_int (fun _ _ => rfl)) (pv 1) (nomark _)) (pw_or1 (pt_not (pt_val (pe_callB (k_isi K) (by rfl) T.n_isinstance (by decide +kernel) (pa_cons (pe_ix (k_ixT K) (pv 0) pe_int (fun _ _ => rfl)) (pa_cons (pe_bltn (v := .ty "tuple") (by rfl) T.n_tuple (by decide +kernel) rfl) pa_nil))))))))) (pss_one (ps_ret pe_bl)) pss_nil) (pss_cons (ps_if (pt_not (pt_chain op_le op_le pe_int (pe_callB (k_len K) (by rfl) T.n_len PySem.boot_len (pa_cons (pe_ix (k_ixT K) (pv 0) pe_int (fun _ _ => rfl)) pa_nil)) (pe_gk (by rfl) T.kMOST_LONG_PARTS))) (pss_one (ps_ret pe_bl)) pss_nil) (pss_one (ps_ret (pe_callB (k_all K rfl) (by rfl) T.n_all (by decide +kernel) (pa_cons (pe_lc (own := [("part", 3)]) rfl sc_has_form.nd (k_piT K (pe_ix (k_ixT K) (pv 0) pe_int (fun _ _ => rfl))) (blkOk_by (N := ["value", "outer", "deep", "part"]) (sc := defScope s_has_form) (own := [("part", 3)]) (by decide +kernel)) (fun _ _ _ _ _ => (pg_name (i := 3) sc_has_form.nd rfl (Or.inl rfl))) (fun _ _ _ _ _ => pts_nil) (fun _ _ _ _ _ => (pe_cl c_has_form hr (by first | decide | omega) (by rfl) (pa_cons (pv 3) (pa_cons (pe_ix (k_ixT K) (pv 0) pe_int (fun _ _ => rfl)) (pa_cons (pe_op op_sub (pv 2) pe_int) pa_nil)))))) pa_nil))))))))), ?_⟩
    refine run_F h fun ds d pre => ?_
    obtain ⟨e, o, k, hd, hk, ok, ho, rfl, rfl⟩ := pre
    have v0 : (st0 ["value", "outer", "deep", "part"] [enc e, .str o, .int k])[0]? = some (some (.d (enc e))) := rfl
    have v1 : (st0 ["value", "outer", "deep", "part"] [enc e, .str o, .int k])[1]? = some (some (.d (.str o))) := rfl
    have v2 : (st0 ["value", "outer", "deep", "part"] [enc e, .str o, .int k])[2]? = some (some (.d (.int k))) := rfl
    have hlf : DenT _ _ (lfB e) := dt_B (dn_call (Pre := pLeaf) (E := E0) (da_cons (dn_var v0) da_nil) ⟨e, ok.w, rfl, rfl⟩)
    by_cases hl : ∃ l, e = .leaf l
    · obtain ⟨l, rfl⟩ := hl
      exact ds_seqR (ds_ifT hlf (ds_ret dn_bl))
    · obtain ⟨hl', hS, hT⟩ := not_leaf hl
      have hlB : lfB e = false := by
        cases e with
        | leaf l => exact absurd rfl (hl' l)
        | row j ps => rfl
        | one m e => rfl
      rw [hlB] at hlf
      have hk0 : 0 < k := by
        cases e with
        | leaf l => exact absurd rfl (hl' l)
        | row j ps => rw [dp] at hk; omega
        | one m e => rw [dp] at hk; omega
      obtain ⟨x0, x1, hx⟩ : ∃ x0 x1, enc e = .tuple [x0, x1] := by
        cases e with
        | leaf l => exact absurd rfl (hl' l)
        | row j ps => exact ⟨_, _, rfl⟩
        | one m e => exact ⟨_, _, rfl⟩
      have hhd := dn_hd (K := K) (dn_var v0) hl'
      refine ds_seq (ds_ifF hlf ds_next) ?_
      refine ds_seq (ds_ifF ?_ ds_next) ?_
      · refine (dt_or (a := false) (b := false) ((dt_test (dn_op (dn_var v2) dn_int rd_eqI)).is (by simp; omega)) fun _ => ?_)
        refine (dt_or (a := false) (b := false) ((dt_not (dt_B (dn_isT (dn_var v0)))).is (by rw [hT]; rfl)) fun _ => ?_)
        refine (dt_or (a := false) (b := false) ((dt_test (dn_op (dn_cb (da_cons (dn_var v0) da_nil) (rc_len (n := 2) (by rw [hx]; rfl))) dn_int rd_neI)).is (by rfl)) fun _ => ?_)
        exact (dt_not (dt_B (dn_isS hhd))).is rfl
      cases e with
      | leaf l => exact absurd rfl (hl' l)
      | one m e =>
        have hp := ok.parts (p := e) (by simp [parts])
        rw [dp] at hd hk
        refine ds_seqR (ds_ifT (dt_test (dn_single T.sSINGLES (dn_var v0) hl')) (ds_ret (dn_call (Pre := pForm n) (da_cons (dn_ixT (dn_var v0) rfl) (da_cons dn_str (da_cons (dn_op (dn_var v2) dn_int rd_sub) da_nil))) ⟨e, "", k - 1, by omega, by omega, hp.1, fun j _ => ?_, ?_, rfl⟩)))
        · cases j <;> decide +kernel
        · have : ((k : Int) - 1) = ((k - 1 : Nat) : Int) := by omega
          rw [this]
      | row j ps =>
        rw [dp] at hd hk
        have w := ok.w
        rw [wf, Bool.and_eq_true] at w
        have h2 : 2 ≤ ps.length := of_decide_eq_true w.1
        have hln : ps.length ≤ 100 := ok.len
        have hv := (dn_var v0).is (enc_row j ps)
        have e1 := dn_ixT (K := K) (k := 1) hv rfl
        refine ds_seq (ds_ifF (dt_test (dn_single T.sSINGLES (dn_var v0) hl')) ds_next) ?_
        refine ds_seq (ds_ifF ?_ ds_next) ?_
        · refine (dt_or (a := false) (b := false) (dt_test (dn_notRow T.sROWS (dn_var v0) hl')) fun _ => ?_)
          refine (dt_or (a := false) (b := false) ((dt_test (dn_op (dn_ixT hv rfl) (dn_var v1) rd_eqS)).is ?_) fun _ => ?_)
          · exact decide_eq_false fun z => ho j (by simp [isR]) z.symm
          · exact (dt_not (dt_B (dn_isT e1))).is rfl
        refine ds_seq (ds_ifF ((dt_not (a := true) (dt_test (dn_chain (x := .int 2) (y := .int ps.length) (z := .int 200) dn_int (dk_len (n := ps.length) e1 (by show some (ps.map enc).length = _; rw [List.length_map])) ((rd_le).is' (by simp; omega)) (fun _ => ⟨dn_int, (rd_le).is' (by simp; omega)⟩) (fun z => nomatch z)))).is rfl) ds_next) ?_
        refine ds_ret ((dn_cb (da_cons ?_ da_nil) (rc_all (bs := ps.map fun _ => true))).is (by simp))
        rw [List.map_map]
        refine dn_lcY ps enc (fun _ => .bool true) (fun p => [some (.d (enc (.row j ps))), some (.d (.str o)), some (.d (.int k)), some (.d (enc p))]) (di_tup e1) (fun p hp => dg_name) (fun p hp => ?_) (by omega)
        obtain ⟨ok', hd'⟩ := ok.parts (p := p) hp
        rw [dp] at hd'
        refine dn_call (Pre := pForm n) (da_cons (dn_var rfl) (da_cons (dn_ixT ((dn_var (i := 0) rfl).is (enc_row j ps)) rfl) (da_cons (dn_op (dn_var (i := 2) rfl) dn_int rd_sub) da_nil))) ⟨p, nmR j, k - 1, by omega, by omega, ok', fun j' h' => ?_, ?_, rfl⟩
        · have := (wf_in w.2 hp).2
          cases j <;> cases j' <;> first | (rw [this] at h'; cases h') | decide +kernel
        · have : ((k : Int) - 1) = ((k - 1 : Nat) : Int) := by omega
          rw [this]
end
end Nd
set_option Elab.async false
set_option linter.all false
set_option maxRecDepth 100000
set_option maxHeartbeats 4000000
namespace Nd
open PySem PySem.Spec PyProof.Rows L2
open Evl (Ex Ex.refl Ex.trans Ex.new)
abbrev s_is_long : Stmt := topS 17
theorem sc_is_long : FnScope ["value"] ["value"] (defScope s_is_long) := ⟨rfl, rfl, rfl, by decide +kernel, rfl, by decide +kernel, by decide +kernel⟩
theorem bd_is_long (kV doc pm : Value) (an : Option Addr) (cdv ct : Value) (us : List Value) (hl : us.length = (["value"] : List Str).length) : bindArgs (PySem.W.fnOf "is_long" "is_long" (defArgs s_is_long) (defBody s_is_long) (defScope s_is_long) .none kV doc pm an cdv ct) ⟨us, []⟩ = pure ((["value"] : List Str).zip us) :=
  match us, hl with | [_], _ => rfl
abbrev s_is_word : Stmt := topS 18
theorem sc_is_word : FnScope ["value", "letter"] ["value"] (defScope s_is_word) := ⟨rfl, rfl, rfl, by decide +kernel, rfl, by decide +kernel, by decide +kernel⟩
theorem bd_is_word (kV doc pm : Value) (an : Option Addr) (cdv ct : Value) (us : List Value) (hl : us.length = (["value"] : List Str).length) : bindArgs (PySem.W.fnOf "is_word" "is_word" (defArgs s_is_word) (defBody s_is_word) (defScope s_is_word) .none kV doc pm an cdv ct) ⟨us, []⟩ = pure ((["value"] : List Str).zip us) :=
  match us, hl with | [_], _ => rfl
abbrev s_check_long : Stmt := topS 19
theorem sc_check_long : FnScope ["value"] ["value"] (defScope s_check_long) := ⟨rfl, rfl, rfl, by decide +kernel, rfl, by decide +kernel, by decide +kernel⟩
theorem bd_check_long (kV doc pm : Value) (an : Option Addr) (cdv ct : Value) (us : List Value) (hl : us.length = (["value"] : List Str).length) : bindArgs (PySem.W.fnOf "check_long" "check_long" (defArgs s_check_long) (defBody s_check_long) (defScope s_check_long) .none kV doc pm an cdv ct) ⟨us, []⟩ = pure ((["value"] : List Str).zip us) :=
  match us, hl with | [_], _ => rfl
abbrev s_check_word : Stmt := topS 20
theorem sc_check_word : FnScope ["word"] ["word"] (defScope s_check_word) := ⟨rfl, rfl, rfl, by decide +kernel, rfl, by decide +kernel, by decide +kernel⟩
theorem bd_check_word (kV doc pm : Value) (an : Option Addr) (cdv ct : Value) (us : List Value) (hl : us.length = (["word"] : List Str).length) : bindArgs (PySem.W.fnOf "check_word" "check_word" (defArgs s_check_word) (defBody s_check_word) (defScope s_check_word) .none kV doc pm an cdv ct) ⟨us, []⟩ = pure ((["word"] : List Str).zip us) :=
  match us, hl with | [_], _ => rfl
abbrev s_check_both : Stmt := topS 28
theorem sc_check_both : FnScope ["expression", "word"] ["expression", "word"] (defScope s_check_both) := ⟨rfl, rfl, rfl, by decide +kernel, rfl, by decide +kernel, by decide +kernel⟩
theorem bd_check_both (kV doc pm : Value) (an : Option Addr) (cdv ct : Value) (us : List Value) (hl : us.length = (["expression", "word"] : List Str).length) : bindArgs (PySem.W.fnOf "check_both" "check_both" (defArgs s_check_both) (defBody s_check_both) (defScope s_check_both) .none kV doc pm an cdv ct) ⟨us, []⟩ = pure ((["expression", "word"] : List Str).zip us) :=
  match us, hl with | [_, _], _ => rfl
theorem nmR_join (j : Bool) : decide (nmR j = ("join" : Str)) = j := by cases j <;> decide +kernel
theorem nmR_or (j : Bool) : decide (nmR j = ("or" : Str)) = !j := by cases j <;> decide +kernel
theorem nmO_many (j : Bool) : decide (nmO j = ("many" : Str)) = j := by cases j <;> decide +kernel
theorem em_parts : ∀ e : Xp, (∀ l, e ≠ .leaf l) → single e = false → em e = if isR true e then (parts e).all em else (parts e).any em
  | .leaf l, h, _ => absurd rfl (h l)
  | .row true ps, _, _ => by
    have h : ∀ ps : List Xp, em.emA ps = ps.all em := by
      intro ps
      induction ps with
      | nil => rfl
      | cons a r ih => rw [em.emA, ih]; rfl
    rw [em, h]; rfl
  | .row false ps, _, _ => by
    have h : ∀ ps : List Xp, em.emO ps = ps.any em := by
      intro ps
      induction ps with
      | nil => rfl
      | cons a r ih => rw [em.emO, ih]; rfl
    rw [em, h]; rfl
  | .one m e, _, h => nomatch h
section
variable {P : Program} {w : World} {K : PySem.W.Frag} {mg : Str → Option Value} {base : Heap} {aR aS : Addr}
def pEm (n : Nat) (ds : List PyData) (d : PyData) : Prop := ∃ e : Xp, dp e < n ∧ Ok e ∧ ds = [enc e] ∧ d = .bool (em e)
theorem cl_has_empty (T : Tx K mg aR aS) : ∀ n, Cl P w K mg base (n + 2) "has_empty" (SpF (pEm n))
  | 0 => cl_none T.d_has_empty bd_has_empty (no_F (by rintro ds d ⟨e, h, _⟩; omega))
  | n + 1 => by
    have c_has_empty := cl_has_empty T n
    refine mk_cl T.d_has_empty sc_has_empty bd_has_empty (len_F (by rintro ds d ⟨e, _, _, rfl, _⟩; rfl)) (fun f cdv A outer s H vs Q E hr h => ?_)
    refine ⟨_, (pss_cons (ps_if (pt_val (pe_callB (k_isi K) (by rfl) T.n_isinstance (by decide +kernel) (pa_cons (pv 0) (pa_cons (pe_bltn (v := .ty "str") (by rfl) T.n_str (by decide +kernel) rfl) pa_nil)))) (pss_one (ps_ret (pe_cmpR op_eq (pv 0) pe_str (nomark _)))) pss_nil) (pss_cons (ps_if (pt_cmpR (k_in K) (pe_ix (k_ixT K) (pv 0) pe_int (fun _ _ => rfl)) (pe_gk (by rfl) T.kSINGLES) (by rfl)) (pss_one (ps_ret pe_bl)) pss_nil) (pss_cons (ps_setLc (i := 1) (own := [("part", 2)]) rfl sc_has_empty.nd rfl rfl (sw_true rfl rfl rfl (by decide +kernel)) (k_piT K (pe_ix (k_ixT K) (pv 0) pe_int (fun _ _ => rfl))) (blkOk_by (N := ["expression", "told", "part"]) (sc := defScope s_has_empty) (own := [("part", 2)]) (by decide +kernel)) (fun _ _ _ _ _ => (pg_name (i := 2) sc_has_empty.nd rfl (Or.inl rfl))) (fun _ _ _ _ _ => pts_nil) (fun _ _ _ _ _ => (pe_cl c_has_empty hr (by first | decide | omega) (by rfl) (pa_cons (pv 2) pa_nil)))) (pss_one (ps_ret (pe_ifExp (pt_cmpR op_eq (pe_ix (k_ixT K) (pv 0) pe_int (fun _ _ => rfl)) pe_str (nomark _)) (pe_callB (k_all K rfl) (by rfl) T.n_all (by decide +kernel) (pa_cons (pv 1) pa_nil)) (pe_callB (k_any K rfl) (by rfl) T.n_any (by decide +kernel) (pa_cons (pv 1) pa_nil)))))))), ?_⟩
    refine run_F h fun ds d pre => ?_
    obtain ⟨e, hd, ok, rfl, rfl⟩ := pre
    have v0 : (st0 ["expression", "told", "part"] [enc e])[0]? = some (some (.d (enc e))) := rfl
    by_cases hl : ∃ l, e = .leaf l
    · obtain ⟨l, rfl⟩ := hl
      refine ds_seqR (ds_ifT (dt_B (dn_isS (dn_var v0))) (ds_ret ((dn_op (dn_var v0) dn_str rd_eqS).is ?_)))
      rw [empty_is, em]
      congr 1
      cases l with
      | nil => rfl
      | cons a r => exact decide_eq_false fun z => nomatch (Sx_inj.mp z)
    · obtain ⟨hl', hS, hT⟩ := not_leaf hl
      refine ds_seq (ds_ifF (dt_B ((dn_isS (dn_var v0)).is (by rw [hS]))) ds_next) ?_
      cases hs : single e with
      | true =>
        have he : em e = true := by
          cases e with
          | one m e => rfl
          | leaf l => cases hs
          | row j ps => cases hs
        rw [he]
        exact ds_seqR (ds_ifT (dt_test ((dn_single T.sSINGLES (dn_var v0) hl').is (by rw [hs]))) (ds_ret dn_bl))
      | false =>
        refine ds_seq (ds_ifF (dt_test ((dn_single T.sSINGLES (dn_var v0) hl').is (by rw [hs]))) ds_next) ?_
        have hlen := ok.len
        have hE := em_parts e hl' hs
        cases e with
        | leaf l => exact absurd rfl (hl' l)
        | one m e => cases hs
        | row j ps =>
          have hv := (dn_var v0).is (enc_row j ps)
          refine ds_seq (ds_set (d := .list (ps.map fun p => .bool (em p))) (dn_lcY ps enc (fun p => .bool (em p)) (fun p => [some (.d (enc (.row j ps))), none, some (.d (enc p))]) (di_tup (dn_ixT hv rfl)) (fun p hp => dg_name) (fun p hp => ?_) ?_)) ?_
          · obtain ⟨ok', hd'⟩ := ok.parts (p := p) hp
            exact dn_call (Pre := pEm n) (da_cons (dn_var rfl) da_nil) ⟨p, by omega, ok', rfl, rfl⟩
          · have : ps.length ≤ 100 := hlen
            omega
          have v1 : ((st0 ["expression", "told", "part"] [enc (.row j ps)]).set 1 (some (.d (.list (ps.map fun p => .bool (em p))))))[1]? = some (some (.d (.list ((ps.map em).map PyData.bool)))) := by rw [List.map_map]; rfl
          have hv2 := (dn_var (ρ := (st0 ["expression", "told", "part"] [enc (.row j ps)]).set 1 (some (.d (.list (ps.map fun p => .bool (em p)))))) (i := 0) rfl).is (enc_row j ps)
          refine ds_ret ?_
          rw [hE]
          cases j with
          | true =>
            refine dn_if (b := true) (dt_test ((dn_op (dn_ixT hv2 rfl) dn_str rd_eqS).is (by rw [nmR_join]))) (fun _ => (dn_cb (da_cons (dn_var v1) da_nil) rc_all).is ?_) fun z => nomatch z
            have hj : isR true (.row true ps) = true := rfl
            rw [hj, if_pos rfl, List.all_map]; rfl
          | false =>
            refine dn_if (b := false) (dt_test ((dn_op (dn_ixT hv2 rfl) dn_str rd_eqS).is (by rw [nmR_join]))) (fun z => nomatch z) fun _ => (dn_cb (da_cons (dn_var v1) da_nil) rc_any).is ?_
            have hj : isR true (.row false ps) = false := rfl
            rw [hj, if_neg Bool.false_ne_true, List.any_map]; rfl
theorem cl__law_letters (T : Tx K mg aR aS) : ∀ n, Cl P w K mg base (n + 2) "_law_letters" (SpF (pLet n))
  | 0 => cl_none T.d__law_letters bd__law_letters (no_F (by rintro ds d ⟨e, h, _⟩; omega))
  | n + 1 => by
    have c__law_letters := cl__law_letters T n
    refine mk_cl T.d__law_letters sc__law_letters bd__law_letters (len_F (by rintro ds d ⟨e, _, _, rfl, _⟩; rfl)) (fun f cdv A outer s H vs Q E hr h => ?_)
    refine ⟨_, (pss_cons (ps_if (pt_val (pe_callB (k_isi K) (by rfl) T.n_isinstance (by decide +kernel) (pa_cons (pv 0) (pa_cons (pe_bltn (v := .ty "str") (by rfl) T.n_str (by decide +kernel) rfl) pa_nil)))) (pss_one (ps_ret (pv 0))) pss_nil) (pss_cons (ps_if (pt_cmpR (k_in K) (pe_ix (k_ixT K) (pv 0) pe_int (fun _ _ => rfl)) (pe_lst (pa_cons pe_str (pa_cons pe_str pa_nil))) (by rfl)) (pss_one (ps_ret (pe_cl c__law_letters hr (by first | decide | omega) (by rfl) (pa_cons (pe_ix (k_ixT K) (pv 0) pe_int (fun _ _ => rfl)) pa_nil)))) pss_nil) (pss_one (ps_ret (k_join K pe_str (pe_lc (own := [("_law_part", 1)]) rfl sc__law_letters.nd (k_piT K (pe_ix (k_ixT K) (pv 0) pe_int (fun _ _ => rfl))) (blkOk_by (N := ["_law_expression_here", "_law_part"]) (sc := defScope s__law_letters) (own := [("_law_part", 1)]) (by decide +kernel)) (fun _ _ _ _ _ => (pg_name (i := 1) sc__law_letters.nd rfl (Or.inl rfl))) (fun _ _ _ _ _ => pts_nil) (fun _ _ _ _ _ => (pe_cl c__law_letters hr (by first | decide | omega) (by rfl) (pa_cons (pv 1) pa_nil))))))))), ?_⟩
    refine run_F h fun ds d pre => ?_
    obtain ⟨e, hd, ok, rfl, rfl⟩ := pre
    have v0 : (st0 ["_law_expression_here", "_law_part"] [enc e])[0]? = some (some (.d (enc e))) := rfl
    by_cases hl : ∃ l, e = .leaf l
    · obtain ⟨l, rfl⟩ := hl
      exact ds_seqR (ds_ifT (dt_B (dn_isS (dn_var v0))) (ds_ret (dn_var v0)))
    · obtain ⟨hl', hS, hT⟩ := not_leaf hl
      refine ds_seq (ds_ifF (dt_B ((dn_isS (dn_var v0)).is (by rw [hS]))) ds_next) ?_
      cases e with
      | leaf l => exact absurd rfl (hl' l)
      | one m e =>
        have hp := ok.parts (p := e) (by simp [parts])
        exact ds_seqR (ds_ifT (dt_test (dn_singleL (dn_var v0) hl')) (ds_ret (dn_call (Pre := pLet n) (da_cons (dn_ixT (dn_var v0) rfl) da_nil) ⟨e, by omega, hp.1, rfl, rfl⟩)))
      | row j ps =>
        refine ds_seq (ds_ifF (dt_test (dn_singleL (dn_var v0) hl')) ds_next) (ds_ret ?_)
        have hlt := lt_parts _ hl'
        have hlen : ps.length ≤ 100 := ok.len
        have hll := ok.l
        have hv := (dn_var v0).is (enc_row j ps)
        rw [hlt]
        refine dn_join0 (lls := ps.map lt) ?_ ?_ ?_
        · rw [List.map_map]
          refine dn_lcY ps enc (fun p => .str (Sx (lt p))) (fun p => [some (.d (enc (.row j ps))), some (.d (enc p))]) (di_tup (dn_ixT hv rfl)) (fun p hp => dg_name) (fun p hp => ?_) (by omega)
          obtain ⟨ok', hd'⟩ := ok.parts (p := p) hp
          exact dn_call (da_cons (dn_var rfl) da_nil) ⟨p, by omega, ok', rfl, rfl⟩
        · rw [hlt] at hll; exact Nat.le_trans hll (by decide)
        · rw [List.length_map]; omega
/-! ### the checks -/
def LV : Nat := 50
/-- expressions that are not deep -/
def pLong (ds : List PyData) (d : PyData) : Prop := ∃ e : Xp, dp e < 40 ∧ Ok e ∧ ds = [enc e] ∧ d = .bool true
theorem cl_is_long (T : Tx K mg aR aS) : Cl P w K mg base 43 "is_long" (SpF pLong) := by
  have c_has_form := cl_has_form (P := P) (w := w) (base := base) T 40
  have c_letters_of := cl_letters_of (P := P) (w := w) (base := base) T 40
  have c_count_of := cl_count_of (P := P) (w := w) (base := base) T 40
  refine mk_cl T.d_is_long sc_is_long bd_is_long (len_F (by rintro ds d ⟨e, _, _, rfl, _⟩; rfl)) (fun f cdv A outer s H vs Q E hr h => ?_)
  refine ⟨_, (pss_cons (ps_if (pt_not (pt_val (pe_cl c_has_form hr (by first | decide | omega) (by rfl) (pa_cons (pv 0) (pa_cons pe_str (pa_cons (pe_gk (by rfl) T.kDEEPEST_LONG) pa_nil)))))) (pss_one (ps_ret pe_bl)) pss_nil) (pss_one (ps_ret (pe_and (pe_cmpR op_le (pe_callB call_len_str (by rfl) T.n_len PySem.boot_len (pa_cons (pe_cl c_letters_of hr (by first | decide | omega) (by rfl) (pa_cons (pv 0) pa_nil)) pa_nil)) (pe_gk (by rfl) T.kMOST_LONG_LETTERS) (nomark _)) (pe_one (pe_cmpR op_le (pe_cl c_count_of hr (by first | decide | omega) (by rfl) (pa_cons (pv 0) pa_nil)) (pe_gk (by rfl) T.kMOST_LONG_PARTS) (nomark _))))))), ?_⟩
  refine run_F h fun ds d pre => ?_
  obtain ⟨e, hd, ok, rfl, rfl⟩ := pre
  have v0 : (st0 ["value"] [enc e])[0]? = some (some (.d (enc e))) := rfl
  refine ds_seq (ds_ifF ((dt_not (a := true) (dt_B (dn_call (Pre := pForm 40) (da_cons (dn_var v0) (da_cons dn_str (da_cons dn_int da_nil))) ⟨e, "", 40, hd, by omega, ok, fun j _ => by cases j <;> decide +kernel, rfl, rfl⟩))).is rfl) ds_next) (ds_ret ?_)
  have hl := ok.l
  have hc := ok.c
  refine (dn_andV (a := true) (b := true) ((dn_op (dn_cb (da_cons (dn_call (Pre := pLet 40) (da_cons (dn_var v0) da_nil) ⟨e, hd, ok, rfl, rfl⟩) da_nil) (rc_lenS (by rw [len_Sx]; omega))) dn_int rd_le).is (by rw [len_Sx]; simp; omega)) fun _ => ?_)
  exact (dn_op (dn_call (Pre := pCnt 40) (da_cons (dn_var v0) da_nil) ⟨e, hd, ok, rfl, rfl⟩) dn_int rd_le).is (by simp; omega)
/-- a word -/
def WOk (l : List Nat) : Prop := l.length ≤ 24 ∧ ∀ c ∈ l, c ∈ [97, 98, 99, 100]
def pWord (ds : List PyData) (d : PyData) : Prop := ∃ l : List Nat, WOk l ∧ ds = [.str (Sx l)] ∧ d = .bool true
theorem sgn_Sx (l : List Nat) : sgn (Sx l) = l.map fun c => .str (Sx [c]) := by
  unfold sgn
  rfl
theorem cl_is_word (T : Tx K mg aR aS) : Cl P w K mg base 1 "is_word" (SpF pWord) := by
  refine mk_cl T.d_is_word sc_is_word bd_is_word (len_F (by rintro ds d ⟨e, _, rfl, _⟩; rfl)) (fun f cdv A outer s H vs Q E hr h => ?_)
  refine ⟨_, (pss_one (ps_ret (pe_and (pe_callB (k_isi K) (by rfl) T.n_isinstance (by decide +kernel) (pa_cons (pv 0) (pa_cons (pe_bltn (v := .ty "str") (by rfl) T.n_str (by decide +kernel) rfl) pa_nil))) (pe_and (pe_cmpR op_le (pe_callB call_len_str (by rfl) T.n_len PySem.boot_len (pa_cons (pv 0) pa_nil)) (pe_gk (by rfl) T.kLONGEST_WORD) (nomark _)) (pe_one (pe_callB (k_all K rfl) (by rfl) T.n_all (by decide +kernel) (pa_cons (pe_lc (own := [("letter", 1)]) rfl sc_is_word.nd (pi_str (pv 0)) (blkOk_by (N := ["value", "letter"]) (sc := defScope s_is_word) (own := [("letter", 1)]) (by decide +kernel)) (fun _ _ _ _ _ => (pg_name (i := 1) sc_is_word.nd rfl (Or.inl rfl))) (fun _ _ _ _ _ => pts_nil) (fun _ _ _ _ _ => (pe_cmpR op_in_str (pv 1) (pe_gk (by rfl) T.kLETTERS) (by rfl)))) pa_nil))))))), ?_⟩
  refine run_F h fun ds d pre => ?_
  obtain ⟨l, wok, rfl, rfl⟩ := pre
  have v0 : (st0 ["value", "letter"] [.str (Sx l)])[0]? = some (some (.d (.str (Sx l)))) := rfl
  have h1 := wok.1
  refine ds_ret (dn_andV (a := true) (b := true) ((dn_isS (dn_var v0)).is rfl) fun _ => ?_)
  refine (dn_andV (a := true) (b := true) ((dn_op (dn_cb (da_cons (dn_var v0) da_nil) (rc_lenS (by rw [len_Sx]; omega))) dn_int rd_le).is (by rw [len_Sx]; simp; omega)) fun _ => ?_)
  refine (dn_cb (da_cons ?_ da_nil) (rc_all (bs := l.map fun _ => true))).is (by simp)
  rw [List.map_map]
  refine dn_lcY l (fun c => .str (Sx [c])) (fun _ => .bool true) (fun c => [some (.d (.str (Sx l))), some (.d (.str (Sx [c])))]) (by rw [← sgn_Sx]; exact di_str (dn_var v0)) (fun p hp => dg_name) (fun c hc => ?_) (by omega)
  refine (dn_op (dn_var rfl) dn_str rd_inS).is ?_
  rw [abcd_is, SX.in_one [97, 98, 99, 100] c, decide_eq_true (wok.2 c hc)]
def pChkL (ds : List PyData) (d : PyData) : Prop := ∃ e : Xp, dp e < 40 ∧ Ok e ∧ ds = [enc e] ∧ d = .none
theorem cl_check_long (T : Tx K mg aR aS) : Cl P w K mg base 44 "check_long" (SpF pChkL) := by
  have c_is_long := cl_is_long (P := P) (w := w) (base := base) T
  refine mk_cl T.d_check_long sc_check_long bd_check_long (len_F (by rintro ds d ⟨e, _, _, rfl, _⟩; rfl)) (fun f cdv A outer s H vs Q E hr h => ?_)
  refine ⟨_, (pss_one (ps_if (pt_not (pt_val (pe_cl c_is_long hr (by first | decide | omega) (by rfl) (pa_cons (pv 0) pa_nil)))) (pss_one ps_never) pss_nil)), ?_⟩
  refine run_N h fun ds d pre => ?_
  obtain ⟨e, hd, ok, rfl, rfl⟩ := pre
  exact ⟨rfl, _, ds_ifF ((dt_not (a := true) (dt_B (dn_call (Pre := pLong) (da_cons (dn_var rfl) da_nil) ⟨e, hd, ok, rfl, rfl⟩))).is rfl) ds_next⟩
def pChkW (ds : List PyData) (d : PyData) : Prop := ∃ l : List Nat, WOk l ∧ ds = [.str (Sx l)] ∧ d = .none
theorem cl_check_word (T : Tx K mg aR aS) : Cl P w K mg base 2 "check_word" (SpF pChkW) := by
  have c_is_word := cl_is_word (P := P) (w := w) (base := base) T
  refine mk_cl T.d_check_word sc_check_word bd_check_word (len_F (by rintro ds d ⟨e, _, rfl, _⟩; rfl)) (fun f cdv A outer s H vs Q E hr h => ?_)
  refine ⟨_, (pss_one (ps_if (pt_not (pt_val (pe_cl c_is_word hr (by first | decide | omega) (by rfl) (pa_cons (pv 0) pa_nil)))) (pss_one ps_never) pss_nil)), ?_⟩
  refine run_N h fun ds d pre => ?_
  obtain ⟨l, wok, rfl, rfl⟩ := pre
  exact ⟨rfl, _, ds_ifF ((dt_not (a := true) (dt_B (dn_call (Pre := pWord) (da_cons (dn_var rfl) da_nil) ⟨l, wok, rfl, rfl⟩))).is rfl) ds_next⟩
theorem ds_drop {te : TE} {ρ : Ev} {d : PyData} (h : Den te ρ d) : DenS (tDrop te) ρ (.nx ρ) := fun M σ H m e Dn q => h M σ H m e _ fun v H1 e1 _ => q σ H1 e1 (e.ex e1)
def pChkB (ds : List PyData) (d : PyData) : Prop := ∃ (e : Xp) (l : List Nat), dp e < 40 ∧ Ok e ∧ WOk l ∧ ds = [enc e, .str (Sx l)] ∧ d = .none
theorem cl_check_both (T : Tx K mg aR aS) : Cl P w K mg base 45 "check_both" (SpF pChkB) := by
  have c_check_word := cl_check_word (P := P) (w := w) (base := base) T
  have c_check_long := cl_check_long (P := P) (w := w) (base := base) T
  refine mk_cl T.d_check_both sc_check_both bd_check_both (len_F (by rintro ds d ⟨e, l, _, _, _, rfl, _⟩; rfl)) (fun f cdv A outer s H vs Q E hr h => ?_)
  refine ⟨_, (pss_cons (ps_expr (pe_cl c_check_long hr (by first | decide | omega) (by rfl) (pa_cons (pv 0) pa_nil))) (pss_one (ps_expr (pe_cl c_check_word hr (by first | decide | omega) (by rfl) (pa_cons (pv 1) pa_nil))))), ?_⟩
  refine run_N h fun ds d pre => ?_
  obtain ⟨e, l, hd, ok, wok, rfl, rfl⟩ := pre
  exact ⟨rfl, _, ds_seq (ds_drop (dn_call (Pre := pChkL) (da_cons (dn_var rfl) da_nil) ⟨e, hd, ok, rfl, rfl⟩)) (ds_drop (dn_call (Pre := pChkW) (da_cons (dn_var rfl) da_nil) ⟨l, wok, rfl, rfl⟩))⟩
end
end Nd
set_option Elab.async false
set_option linter.all false
set_option maxRecDepth 100000
set_option maxHeartbeats 4000000
namespace Nd
open PySem PySem.Spec PyProof.Rows L2
open Evl (Ex Ex.refl Ex.trans Ex.new)
abbrev s_gathered : Stmt := topS 23
theorem sc_gathered : FnScope ["expression", "start", "at", "empty", "part", "places", "more", "firsts", "lasts", "pairs", "first", "last", "own", "one", "other"] ["expression", "start"] (defScope s_gathered) := ⟨rfl, rfl, rfl, by decide +kernel, rfl, by decide +kernel, by decide +kernel⟩
theorem bd_gathered (kV doc pm : Value) (an : Option Addr) (cdv ct : Value) (us : List Value) (hl : us.length = (["expression", "start"] : List Str).length) : bindArgs (PySem.W.fnOf "gathered" "gathered" (defArgs s_gathered) (defBody s_gathered) (defScope s_gathered) .none kV doc pm an cdv ct) ⟨us, []⟩ = pure ((["expression", "start"] : List Str).zip us) :=
  match us, hl with | [_, _], _ => rfl
section
variable {P : Program} {w : World} {K : PySem.W.Frag} {mg : Str → Option Value} {base : Heap} {aR aS : Addr}
def pGa (n : Nat) (ds : List PyData) (d : PyData) : Prop := ∃ (e : Xp) (k : Int), dp e < n ∧ Ok e ∧ ds = [enc e, .int k] ∧ d = .tuple [dI (ga e k).1, dI (ga e k).2.1, dP (ga e k).2.2]
theorem cl_gathered (T : Tx K mg aR aS) : ∀ n, Cl P w K mg base (n + 3) "gathered" (SpF (pGa n))
  | 0 => cl_none T.d_gathered bd_gathered (no_F (by rintro ds d ⟨e, k, h, _⟩; omega))
  | n + 1 => by
    have c_gathered := cl_gathered T n
    have c_parts_of := cl_parts_of (P := P) (w := w) (base := base) T
    have c_letters_of := cl_letters_of (P := P) (w := w) (base := base) T n
    have c_has_empty := cl_has_empty (P := P) (w := w) (base := base) T n
    refine mk_cl T.d_gathered sc_gathered bd_gathered (len_F (by rintro ds d ⟨e, k, _, _, rfl, _⟩; rfl)) (fun f cdv A outer s H vs Q E hr h => ?_)
    refine ⟨_, (pss_cons (ps_if (pt_val (pe_callB (k_isi K) (by rfl) T.n_isinstance (by decide +kernel) (pa_cons (pv 0) (pa_cons (pe_bltn (v := .ty "str") (by rfl) T.n_str (by decide +kernel) rfl) pa_nil)))) (pss_cons (ps_set (i := 5) sc_gathered.nd rfl (Or.inl rfl) (pe_ifExp (k_truth K (pv 0) (by intro _; rfl)) (pe_lst (pa_cons (pv 1) pa_nil)) (pe_lst pa_nil))) (pss_one (ps_ret (pe_tup (pa_cons (pv 5) (pa_cons (pv 5) (pa_cons (pe_lst pa_nil) pa_nil))))))) pss_nil) (pss_cons (ps_if (pt_cmpR (k_in K) (pe_ix (k_ixT K) (pv 0) pe_int (fun _ _ => rfl)) (pe_tup (pa_cons pe_str (pa_cons pe_str pa_nil))) (by rfl)) (pss_cons (ps_asg (pe_cl c_gathered hr (by first | decide | omega) (by rfl) (pa_cons (pe_ix (k_ixT K) (pv 0) pe_int (fun _ _ => rfl)) (pa_cons (pv 1) pa_nil))) (k_pgT K rfl (pgs_cons (pg_name (i := 7) sc_gathered.nd rfl (Or.inr rfl)) (pgs_cons (pg_name (i := 8) sc_gathered.nd rfl (Or.inl rfl)) (pgs_cons (pg_name (i := 9) sc_gathered.nd rfl (Or.inl rfl)) pgs_nil))))) (pss_cons (ps_set (i := 6) sc_gathered.nd rfl (Or.inl rfl) (pe_ifExp (pt_cmpR op_eq (pe_ix (k_ixT K) (pv 0) pe_int (fun _ _ => rfl)) pe_str (nomark _)) (pe_lc2 (own := [("one", 13), ("other", 14)]) (vs1 := [14]) rfl sc_gathered.nd (k_piL K (pv 8)) (blkOk_by (N := ["expression", "start", "at", "empty", "part", "places", "more", "firsts", "lasts", "pairs", "first", "last", "own", "one", "other"]) (sc := defScope s_gathered) (own := [("one", 13), ("other", 14)]) (by decide +kernel)) (by decide) (fun _ _ _ _ _ => (pg_name (i := 13) sc_gathered.nd rfl (Or.inl rfl))) (fun _ _ _ _ _ => pts_nil) (fun _ _ _ _ _ => (k_piL K (pv 7))) (fun _ _ _ _ _ => (pg_name (i := 14) sc_gathered.nd rfl (Or.inl rfl))) (fun _ _ _ _ _ => pts_nil) (fun _ _ _ _ _ => (pe_tup (pa_cons (pv 13) (pa_cons (pv 14) pa_nil))))) (pe_lst pa_nil))) (pss_one (ps_ret (pe_tup (pa_cons (pv 7) (pa_cons (pv 8) (pa_cons (pe_op op_cat (pv 9) (pv 6)) pa_nil)))))))) pss_nil) (pss_cons (ps_asg (pe_tup (pa_cons (pe_lst pa_nil) (pa_cons (pe_lst pa_nil) (pa_cons (pe_lst pa_nil) pa_nil)))) (k_pgT K rfl (pgs_cons (pg_name (i := 7) sc_gathered.nd rfl (Or.inr rfl)) (pgs_cons (pg_name (i := 8) sc_gathered.nd rfl (Or.inl rfl)) (pgs_cons (pg_name (i := 9) sc_gathered.nd rfl (Or.inl rfl)) pgs_nil))))) (pss_cons (ps_set (i := 2) sc_gathered.nd rfl (Or.inl rfl) (pv 1)) (pss_cons (ps_set (i := 3) sc_gathered.nd rfl (Or.inl rfl) pe_bl) (pss_cons (ps_for PassesOwn.never rfl (k_piT K (pe_cl c_parts_of hr (by first | decide | omega) (by rfl) (pa_cons (pv 0) pa_nil))) (pg_name (i := 4) sc_gathered.nd rfl (Or.inl rfl)) (pss_cons (ps_asg (pe_cl c_gathered hr (by first | decide | omega) (by rfl) (pa_cons (pv 4) (pa_cons (pv 2) pa_nil))) (k_pgT K rfl (pgs_cons (pg_name (i := 10) sc_gathered.nd rfl (Or.inr rfl)) (pgs_cons (pg_name (i := 11) sc_gathered.nd rfl (Or.inl rfl)) (pgs_cons (pg_name (i := 12) sc_gathered.nd rfl (Or.inl rfl)) pgs_nil))))) (pss_cons (ps_set (i := 2) sc_gathered.nd rfl (Or.inl rfl) (pe_op op_add (pv 2) (pe_callB call_len_str (by rfl) T.n_len PySem.boot_len (pa_cons (pe_cl c_letters_of hr (by first | decide | omega) (by rfl) (pa_cons (pv 4) pa_nil)) pa_nil)))) (pss_cons (ps_set (i := 9) sc_gathered.nd rfl (Or.inl rfl) (pe_op op_cat (pv 9) (pv 12))) (pss_one (ps_if (pt_cmpR op_eq (pe_ix (k_ixT K) (pv 0) pe_int (fun _ _ => rfl)) pe_str (nomark _)) (pss_cons (ps_set (i := 7) sc_gathered.nd rfl (Or.inr rfl) (pe_op op_cat (pv 7) (pv 10))) (pss_one (ps_set (i := 8) sc_gathered.nd rfl (Or.inl rfl) (pe_op op_cat (pv 8) (pv 11))))) (pss_cons (ps_set (i := 9) sc_gathered.nd rfl (Or.inl rfl) (pe_op op_cat (pv 9) (pe_lc2 (own := [("one", 13), ("other", 14)]) (vs1 := [14]) rfl sc_gathered.nd (k_piL K (pv 8)) (blkOk_by (N := ["expression", "start", "at", "empty", "part", "places", "more", "firsts", "lasts", "pairs", "first", "last", "own", "one", "other"]) (sc := defScope s_gathered) (own := [("one", 13), ("other", 14)]) (by decide +kernel)) (by decide) (fun _ _ _ _ _ => (pg_name (i := 13) sc_gathered.nd rfl (Or.inl rfl))) (fun _ _ _ _ _ => pts_nil) (fun _ _ _ _ _ => (k_piL K (pv 10))) (fun _ _ _ _ _ => (pg_name (i := 14) sc_gathered.nd rfl (Or.inl rfl))) (fun _ _ _ _ _ => pts_nil) (fun _ _ _ _ _ => (pe_tup (pa_cons (pv 13) (pa_cons (pv 14) pa_nil))))))) (pss_cons (ps_set (i := 7) sc_gathered.nd rfl (Or.inr rfl) (pe_op op_cat (pv 7) (pe_ifExp (pt_val (pv 3)) (pv 10) (pe_lst pa_nil)))) (pss_cons (ps_set (i := 8) sc_gathered.nd rfl (Or.inl rfl) (pe_op op_cat (pv 11) (pe_ifExp (pt_val (pe_cl c_has_empty hr (by first | decide | omega) (by rfl) (pa_cons (pv 4) pa_nil))) (pv 8) (pe_lst pa_nil)))) (pss_one (ps_set (i := 3) sc_gathered.nd rfl (Or.inl rfl) (pe_and (pv 3) (pe_one (pe_cl c_has_empty hr (by first | decide | omega) (by rfl) (pa_cons (pv 4) pa_nil))))))))))))))) (pss_one (ps_ret (pe_tup (pa_cons (pv 7) (pa_cons (pv 8) (pa_cons (pv 9) pa_nil)))))))))))), ?_⟩
    refine run_F h fun ds d pre => ?_
    obtain ⟨e, k, hd, ok, rfl, rfl⟩ := pre
    have v0 : (st0 ["expression", "start", "at", "empty", "part", "places", "more", "firsts", "lasts", "pairs", "first", "last", "own", "one", "other"] [enc e, .int k])[0]? = some (some (.d (enc e))) := rfl
    have v1 : (st0 ["expression", "start", "at", "empty", "part", "places", "more", "firsts", "lasts", "pairs", "first", "last", "own", "one", "other"] [enc e, .int k])[1]? = some (some (.d (.int k))) := rfl
    have okl := ok.l
    have okc := ok.c
    by_cases hl : ∃ l, e = .leaf l
    · obtain ⟨l, rfl⟩ := hl
      refine ds_seqR (ds_ifT (dt_B (dn_isS (dn_var v0))) (ds_seq (ds_set (d := dI (if l.isEmpty then [] else [k])) (dn_if (b := !l.isEmpty) (dk_truth (dn_var v0) ?_ ?_) (fun z => ?_) fun z => ?_)) (ds_ret ?_)))
      · show (((Sx l).length : Int) != 0) = _
        rw [len_Sx]
        cases l with
        | nil => rfl
        | cons a r =>
          show ((((a :: r).length : Nat) : Int) != 0) = true
          rw [bne_iff_ne]
          simp
          omega
      · intro s hs
        cases hs
        rw [len_Sx]
        have : l.length ≤ 10 := okl
        omega
      · have : l.isEmpty = false := by simpa using z
        rw [this]
        exact dn_lst (da_cons (dn_var v1) da_nil) (by show 1 ≤ 100000; decide)
      · have : l.isEmpty = true := by simpa using z
        rw [this]
        exact dn_nilI
      · rw [ga]
        exact dn_tup (da_cons (dn_var (i := 5) rfl) (da_cons (dn_var (i := 5) rfl) (da_cons dn_nilP da_nil))) (by show 3 ≤ 100000; decide)
    · obtain ⟨hl', hS, hT⟩ := not_leaf hl
      refine ds_seq (ds_ifF (dt_B ((dn_isS (dn_var v0)).is (by rw [hS]))) ds_next) ?_
      cases e with
      | leaf l => exact absurd rfl (hl' l)
      | one m e =>
        obtain ⟨ok', hd'⟩ := ok.parts (p := e) (by simp [parts])
        have g := ga_b e k ok'.w ok'.l
        have := ok'.l
        have := ok'.c
        have gf := g.f
        have gl := g.l
        have gp := g.p
        rw [ga]
        refine ds_seqR (ds_ifT (dt_test (dn_singleT (dn_var v0) hl')) ?_)
        refine ds_seq (ds_asg (dn_call (Pre := pGa n) (da_cons (dn_ixT (dn_var v0) rfl) (da_cons (dn_var v1) da_nil)) ⟨e, k, by omega, ok', rfl, rfl⟩) (dg_tup (dgs_cons dg_name (dgs_cons dg_name (dgs_cons dg_name dgs_nil))) rfl)) ?_
        refine ds_seq (ds_set (d := dP (if m then cross (ga e k).2.1 (ga e k).1 else [])) (dn_if (b := m) (dt_test ((dn_op (dn_ixT (dn_var rfl) rfl) dn_str rd_eqS).is (by rw [nmO_many]))) (fun z => ?_) fun z => ?_)) (ds_ret ?_)
        · rw [z, if_pos rfl]
          exact dn_cross (dn_var rfl) (fun a ha => dn_var rfl) (by simp) (by simp) (fun a ha b hb => dn_tup (da_cons (dn_var rfl) (da_cons (dn_var rfl) da_nil)) (by show 2 ≤ 100000; decide)) (by omega) (by omega)
        · rw [z, if_neg Bool.false_ne_true]
          exact dn_nilP
        · refine dn_tup (da_cons (dn_var rfl) (da_cons (dn_var rfl) (da_cons (dn_catP (dn_var rfl) (dn_var rfl) ?_) da_nil))) (by show 3 ≤ 100000; decide)
          have := cross_le (l := (ga e k).2.1) (f := (ga e k).1) (by omega) (by omega)
          split
          · omega
          · simp; omega
      | row j ps =>
        rw [ga]
        refine ds_seq (ds_ifF (dt_test (dn_singleT (dn_var v0) hl')) ds_next) ?_
        refine ds_seq (ds_asg (dn_tup (da_cons dn_nilI (da_cons dn_nilI (da_cons dn_nilP da_nil))) (by show 3 ≤ 100000; decide)) (dg_tup (dgs_cons dg_name (dgs_cons dg_name (dgs_cons dg_name dgs_nil))) rfl)) ?_
        refine ds_seq (ds_set (d := .int k) (dn_var rfl)) ?_
        refine ds_seq (ds_set (d := .bool true) dn_bl) ?_
        let S : Nat → GS := fun i => gaL j (ps.take i) ⟨[], [], [], k, true⟩
        let I : Nat → Ev := fun i => [some (.d (enc (.row j ps))), some (.d (.int k)), some (.d (.int (S i).at_)), some (.d (.bool (S i).b)), none, none, none, some (.d (dI (S i).F)), some (.d (dI (S i).L)), some (.d (dP (S i).P)), none, none, none, none, none]
        have hS' : S ps.length = gaL j ps ⟨[], [], [], k, true⟩ := by show gaL j (ps.take ps.length) _ = _; rw [List.take_length]
        refine ds_seq (ρ1 := I (ps.map enc).length) ?_ ?_
        · show DenS _ (I 0) _
          refine ds_forX I (js := [4]) (di_tup (dn_call (Pre := pParts) (da_cons (dn_var (i := 0) rfl) da_nil) ⟨.row j ps, rfl, rfl⟩)) fun i d hdi => ?_
          obtain ⟨p, hp, rfl⟩ : ∃ p, ps[i]? = some p ∧ d = enc p := by
            rw [List.getElem?_map] at hdi
            cases c : ps[i]? with
            | none => rw [c] at hdi; cases hdi
            | some p => rw [c] at hdi; cases hdi; exact ⟨p, rfl, rfl⟩
          have hm : p ∈ ps := List.mem_of_getElem? hp
          obtain ⟨ok', hd'⟩ := ok.parts (p := p) hm
          have hSi : S (i + 1) = gst j (S i) (ga p (S i).at_) (lt p).length (em p) := by
            show gaL j (ps.take (i + 1)) _ = _
            rw [take_succ_get hp, gaL_snoc]
          obtain ⟨sb, hn, hc⟩ := gaS_b ok k i
          have sf := sb.f
          have sl := sb.l
          have sp := sb.p
          have g := ga_b p (S i).at_ ok'.w ok'.l
          have := ok'.l
          have := ok'.c
          have gf := g.f
          have gl := g.l
          have gp := g.p
          have hx := cross_le (l := (S i).L) (f := (ga p (S i).at_).1) (Nat.le_trans sl hn) (by omega)
          have cF : (S i).F.length ≤ 10 := Nat.le_trans sf hn
          have cL : (S i).L.length ≤ 10 := Nat.le_trans sl hn
          have cP : (S i).P.length ≤ 3000 := Nat.le_trans sp (by omega)
          refine ⟨(I i).set 4 (some (.d (enc p))), dg_name, ds_seq (ds_asg (dn_call (Pre := pGa n) (da_cons (dn_var (i := 4) rfl) (da_cons (dn_var (i := 2) rfl) da_nil)) ⟨p, (S i).at_, by omega, ok', rfl, rfl⟩) (dg_tup (dgs_cons dg_name (dgs_cons dg_name (dgs_cons dg_name dgs_nil))) rfl))
            (ds_seq (ds_set (dn_op (dn_var (i := 2) rfl) (dn_cb (da_cons (dn_call (Pre := pLet n) (da_cons (dn_var (i := 4) rfl) da_nil) ⟨p, by omega, ok', rfl, rfl⟩) da_nil) (rc_lenS (by rw [len_Sx]; omega))) rd_add))
            (ds_seq (ds_set (dn_catP (a := (S i).P) (b := (ga p (S i).at_).2.2) (dn_var (i := 9) rfl) (dn_var (i := 12) rfl) (by omega))) ?_))⟩
          rw [len_Sx]
          cases j with
          | true =>
            have hgst : gst true (S i) (ga p (S i).at_) (lt p).length (em p) = ⟨(S i).F ++ (if (S i).b then (ga p (S i).at_).1 else []), (ga p (S i).at_).2.1 ++ (if em p then (S i).L else []), (S i).P ++ (ga p (S i).at_).2.2 ++ cross (S i).L (ga p (S i).at_).1, (S i).at_ + (lt p).length, (S i).b && em p⟩ := rfl
            have hI : I (i + 1) = [some (.d (enc (.row true ps))), some (.d (.int k)), some (.d (.int ((S i).at_ + (lt p).length))), some (.d (.bool ((S i).b && em p))), none, none, none, some (.d (dI ((S i).F ++ (if (S i).b then (ga p (S i).at_).1 else [])))), some (.d (dI ((ga p (S i).at_).2.1 ++ (if em p then (S i).L else [])))), some (.d (dP ((S i).P ++ (ga p (S i).at_).2.2 ++ cross (S i).L (ga p (S i).at_).1))), none, none, none, none, none] := by
              show [_, _, some (Sl.d (.int (S (i + 1)).at_)), some (Sl.d (.bool (S (i + 1)).b)), _, _, _, some (Sl.d (dI (S (i + 1)).F)), some (Sl.d (dI (S (i + 1)).L)), some (Sl.d (dP (S (i + 1)).P)), _, _, _, _, _] = _
              rw [hSi, hgst]
            rw [hI]
            refine ds_ifF (dt_test ((dn_op (dn_ixT ((dn_var (i := 0) rfl).is (enc_row true ps)) rfl) dn_str rd_eqS).is (by rw [nmR_or]; rfl))) ?_
            refine ds_seq (ds_set (dn_catP (a := (S i).P ++ (ga p (S i).at_).2.2) (b := cross (S i).L (ga p (S i).at_).1) (dn_var (i := 9) rfl) (dn_cross (dn_var (i := 8) rfl) (fun a ha => dn_var (i := 10) rfl) (by simp) (by simp) (fun a ha b hb => dn_tup (da_cons (dn_var rfl) (da_cons (dn_var rfl) da_nil)) (by show 2 ≤ 100000; decide)) cL (by omega)) (by rw [List.length_append]; omega))) ?_
            refine ds_seq (ds_set (dn_catI (a := (S i).F) (b := if (S i).b then (ga p (S i).at_).1 else []) (dn_var (i := 7) rfl) (dn_if (b := (S i).b) (dt_B (dn_var (i := 3) rfl)) (fun z => by rw [z, if_pos rfl]; exact dn_var (i := 10) rfl) (fun z => by rw [z, if_neg Bool.false_ne_true]; exact dn_nilI)) (by have := len_if (S i).b (ga p (S i).at_).1; omega))) ?_
            refine ds_seq (ds_set (dn_catI (a := (ga p (S i).at_).2.1) (b := if em p then (S i).L else []) (dn_var (i := 11) rfl) (dn_if (b := em p) (dt_B (dn_call (Pre := pEm n) (da_cons (dn_var (i := 4) rfl) da_nil) ⟨p, by omega, ok', rfl, rfl⟩)) (fun z => by rw [z, if_pos rfl]; exact dn_var (i := 8) rfl) (fun z => by rw [z, if_neg Bool.false_ne_true]; exact dn_nilI)) (by have := len_if (em p) (S i).L; omega))) ?_
            refine ds_le (ds_set (dn_andV (a := (S i).b) (b := em p) (dn_var (i := 3) rfl) fun _ => dn_call (Pre := pEm n) (da_cons (dn_var (i := 4) rfl) da_nil) ⟨p, by omega, ok', rfl, rfl⟩)) ?_
            simp [LeE, I]
          | false =>
            have hgst : gst false (S i) (ga p (S i).at_) (lt p).length (em p) = ⟨(S i).F ++ (ga p (S i).at_).1, (S i).L ++ (ga p (S i).at_).2.1, (S i).P ++ (ga p (S i).at_).2.2, (S i).at_ + (lt p).length, (S i).b⟩ := rfl
            have hI : I (i + 1) = [some (.d (enc (.row false ps))), some (.d (.int k)), some (.d (.int ((S i).at_ + (lt p).length))), some (.d (.bool ((S i).b))), none, none, none, some (.d (dI ((S i).F ++ (ga p (S i).at_).1))), some (.d (dI ((S i).L ++ (ga p (S i).at_).2.1))), some (.d (dP ((S i).P ++ (ga p (S i).at_).2.2))), none, none, none, none, none] := by
              show [_, _, some (Sl.d (.int (S (i + 1)).at_)), some (Sl.d (.bool (S (i + 1)).b)), _, _, _, some (Sl.d (dI (S (i + 1)).F)), some (Sl.d (dI (S (i + 1)).L)), some (Sl.d (dP (S (i + 1)).P)), _, _, _, _, _] = _
              rw [hSi, hgst]
            rw [hI]
            refine ds_ifT (dt_test ((dn_op (dn_ixT ((dn_var (i := 0) rfl).is (enc_row false ps)) rfl) dn_str rd_eqS).is (by rw [nmR_or]; rfl))) ?_
            refine ds_seq (ds_set (dn_catI (a := (S i).F) (b := (ga p (S i).at_).1) (dn_var (i := 7) rfl) (dn_var (i := 10) rfl) (by omega))) ?_
            refine ds_le (ds_set (dn_catI (a := (S i).L) (b := (ga p (S i).at_).2.1) (dn_var (i := 8) rfl) (dn_var (i := 11) rfl) (by omega))) ?_
            simp [LeE, I]
        · rw [List.length_map]
          refine ds_ret ?_
          rw [← hS']
          exact dn_tup (da_cons (dn_var (i := 7) rfl) (da_cons (dn_var (i := 8) rfl) (da_cons (dn_var (i := 9) rfl) da_nil))) (by show 3 ≤ 100000; decide)
end
end Nd
set_option Elab.async false
set_option linter.all false
set_option maxRecDepth 100000
set_option maxHeartbeats 4000000
namespace Nd
open PySem PySem.Spec PyProof.Rows L2
open Evl (Ex Ex.refl Ex.trans Ex.new)
abbrev s_ordered : Stmt := topS 24
theorem sc_ordered : FnScope ["places", "place"] ["places"] (defScope s_ordered) := ⟨rfl, rfl, rfl, by decide +kernel, rfl, by decide +kernel, by decide +kernel⟩
theorem bd_ordered (kV doc pm : Value) (an : Option Addr) (cdv ct : Value) (us : List Value) (hl : us.length = (["places"] : List Str).length) : bindArgs (PySem.W.fnOf "ordered" "ordered" (defArgs s_ordered) (defBody s_ordered) (defScope s_ordered) .none kV doc pm an cdv ct) ⟨us, []⟩ = pure ((["places"] : List Str).zip us) :=
  match us, hl with | [_], _ => rfl
abbrev s_tables_of : Stmt := topS 25
theorem sc_tables_of : FnScope ["expression", "letters", "follow", "place", "firsts", "lasts", "pairs", "one", "other"] ["expression"] (defScope s_tables_of) := ⟨rfl, rfl, rfl, by decide +kernel, rfl, by decide +kernel, by decide +kernel⟩
theorem bd_tables_of (kV doc pm : Value) (an : Option Addr) (cdv ct : Value) (us : List Value) (hl : us.length = (["expression"] : List Str).length) : bindArgs (PySem.W.fnOf "tables_of" "tables_of" (defArgs s_tables_of) (defBody s_tables_of) (defScope s_tables_of) .none kV doc pm an cdv ct) ⟨us, []⟩ = pure ((["expression"] : List Str).zip us) :=
  match us, hl with | [_], _ => rfl
abbrev s_pairs_in : Stmt := topS 33
theorem sc_pairs_in : FnScope ["letters", "places", "one", "other"] ["letters", "places"] (defScope s_pairs_in) := ⟨rfl, rfl, rfl, by decide +kernel, rfl, by decide +kernel, by decide +kernel⟩
theorem bd_pairs_in (kV doc pm : Value) (an : Option Addr) (cdv ct : Value) (us : List Value) (hl : us.length = (["letters", "places"] : List Str).length) : bindArgs (PySem.W.fnOf "pairs_in" "pairs_in" (defArgs s_pairs_in) (defBody s_pairs_in) (defScope s_pairs_in) .none kV doc pm an cdv ct) ⟨us, []⟩ = pure ((["letters", "places"] : List Str).zip us) :=
  match us, hl with | [_, _], _ => rfl
abbrev s_next_places : Stmt := topS 26
theorem sc_next_places : FnScope ["tables", "here", "letter", "found", "letters", "firsts", "lasts", "follow", "empty", "place", "other"] ["tables", "here", "letter"] (defScope s_next_places) := ⟨rfl, rfl, rfl, by decide +kernel, rfl, by decide +kernel, by decide +kernel⟩
theorem bd_next_places (kV doc pm : Value) (an : Option Addr) (cdv ct : Value) (us : List Value) (hl : us.length = (["tables", "here", "letter"] : List Str).length) : bindArgs (PySem.W.fnOf "next_places" "next_places" (defArgs s_next_places) (defBody s_next_places) (defScope s_next_places) .none kV doc pm an cdv ct) ⟨us, []⟩ = pure ((["tables", "here", "letter"] : List Str).zip us) :=
  match us, hl with | [_, _, _], _ => rfl
abbrev s_rows_of : Stmt := topS 27
theorem sc_rows_of : FnScope ["tables", "word", "rows", "here", "letter"] ["tables", "word"] (defScope s_rows_of) := ⟨rfl, rfl, rfl, by decide +kernel, rfl, by decide +kernel, by decide +kernel⟩
theorem bd_rows_of (kV doc pm : Value) (an : Option Addr) (cdv ct : Value) (us : List Value) (hl : us.length = (["tables", "word"] : List Str).length) : bindArgs (PySem.W.fnOf "rows_of" "rows_of" (defArgs s_rows_of) (defBody s_rows_of) (defScope s_rows_of) .none kV doc pm an cdv ct) ⟨us, []⟩ = pure ((["tables", "word"] : List Str).zip us) :=
  match us, hl with | [_, _], _ => rfl
section
variable {P : Program} {w : World} {K : PySem.W.Frag} {mg : Str → Option Value} {base : Heap} {aR aS : Addr}
def pOrd (ds : List PyData) (d : PyData) : Prop := ∃ ns : List Int, ns.length ≤ 40000 ∧ (once ns).length < 64 ∧ ds = [dI ns] ∧ d = dT (ord ns)
theorem cl_ordered (T : Tx K mg aR aS) : Cl P w K mg base 1 "ordered" (SpF pOrd) := by
  refine mk_cl T.d_ordered sc_ordered bd_ordered (len_F (by rintro ds d ⟨ns, _, _, rfl, _⟩; rfl)) (fun f cdv A outer s H vs Q E hr h => ?_)
  refine ⟨_, (pss_one (ps_ret (k_tuple K (by rfl) T.n_tuple (pe_callB (call_sortedDI rfl) (by rfl) T.n_sorted (by decide +kernel) (pa_cons (pe_dc (own := [("place", 1)]) rfl sc_ordered.nd (k_piL K (pv 0)) (blkOk_by (N := ["places", "place"]) (sc := defScope s_ordered) (own := [("place", 1)]) (by decide +kernel)) (fun _ _ _ _ _ => (pg_name (i := 1) sc_ordered.nd rfl (Or.inl rfl))) (fun _ _ _ _ _ => pts_nil) (fun _ _ _ _ _ => (pv 1)) (fun _ _ _ _ _ => pe_bl)) pa_nil))))), ?_⟩
  refine run_F h fun ds d pre => ?_
  obtain ⟨ns, h1, h2, rfl, rfl⟩ := pre
  refine ds_ret (dn_tuple (dn_sortedDc (fun d => [some (.d (dI ns)), some (.d d)]) (di_list (dn_var rfl)) (fun d hd => dg_name) (fun d hd => dn_var rfl) (fun d hd => dn_bl) h2 h1))
def pTab (ds : List PyData) (d : PyData) : Prop := ∃ e : Xp, dp e < 40 ∧ Ok e ∧ ds = [enc e] ∧ d = (tab e).enc
theorem cl_tables_of (T : Tx K mg aR aS) : Cl P w K mg base 44 "tables_of" (SpF pTab) := by
  have c_letters_of := cl_letters_of (P := P) (w := w) (base := base) T 40
  have c_gathered := cl_gathered (P := P) (w := w) (base := base) T 40
  have c_has_empty := cl_has_empty (P := P) (w := w) (base := base) T 40
  have c_ordered := cl_ordered (P := P) (w := w) (base := base) T
  refine mk_cl T.d_tables_of sc_tables_of bd_tables_of (len_F (by rintro ds d ⟨e, _, _, rfl, _⟩; rfl)) (fun f cdv A outer s H vs Q E hr h => ?_)
  refine ⟨_, (pss_cons (ps_set (i := 1) sc_tables_of.nd rfl (Or.inl rfl) (pe_cl c_letters_of hr (by first | decide | omega) (by rfl) (pa_cons (pv 0) pa_nil))) (pss_cons (ps_asg (pe_cl c_gathered hr (by first | decide | omega) (by rfl) (pa_cons (pv 0) (pa_cons pe_int pa_nil))) (k_pgT K (n := 3) rfl (pgs_cons (pg_name (i := 4) sc_tables_of.nd rfl (Or.inl rfl)) (pgs_cons (pg_name (i := 5) sc_tables_of.nd rfl (Or.inl rfl)) (pgs_cons (pg_name (i := 6) sc_tables_of.nd rfl (Or.inl rfl)) pgs_nil))))) (pss_cons (ps_set (i := 2) sc_tables_of.nd rfl (Or.inl rfl) (pe_lst pa_nil)) (pss_cons (ps_for PassesOwn.never rfl (pi_range1 (by rfl) T.n_range (pa_cons (pe_callB call_len_str (by rfl) T.n_len PySem.boot_len (pa_cons (pv 1) pa_nil)) pa_nil)) (pg_name (i := 3) sc_tables_of.nd rfl (Or.inr rfl)) (pss_one (ps_expr (k_bm K PySem.F.plainAttrs_list PySem.F.slot_list_append PySem.F.type_list_append mt_append (pv 2) (pa_cons (pe_cl c_ordered hr (by first | decide | omega) (by rfl) (pa_cons (pe_lc (own := [("one", 7), ("other", 8)]) rfl sc_tables_of.nd (k_piL K (pv 6)) (blkOk_by (N := ["expression", "letters", "follow", "place", "firsts", "lasts", "pairs", "one", "other"]) (sc := defScope s_tables_of) (own := [("one", 7), ("other", 8)]) (by decide +kernel)) (fun _ _ _ _ _ => (k_pgT K (n := 2) rfl (pgs_cons (pg_name (i := 7) sc_tables_of.nd rfl (Or.inl rfl)) (pgs_cons (pg_name (i := 8) sc_tables_of.nd rfl (Or.inl rfl)) pgs_nil)))) (fun _ _ _ _ _ => (pts_one (pt_cmpR op_eq (pv 7) (pv 3) (nomark _)))) (fun _ _ _ _ _ => (pv 8))) pa_nil)) pa_nil))))) (pss_one (ps_ret (pe_tup (pa_cons (pv 1) (pa_cons (pe_cl c_ordered hr (by first | decide | omega) (by rfl) (pa_cons (pv 4) pa_nil)) (pa_cons (pe_cl c_ordered hr (by first | decide | omega) (by rfl) (pa_cons (pv 5) pa_nil)) (pa_cons (k_tuple K (by rfl) T.n_tuple (pv 2)) (pa_cons (pe_cl c_has_empty hr (by first | decide | omega) (by rfl) (pa_cons (pv 0) pa_nil)) pa_nil)))))))))))), ?_⟩
  refine run_F h fun ds d pre => ?_
  obtain ⟨e, hd, ok, rfl, rfl⟩ := pre
  have g := ga_b e 0 ok.w ok.l
  have hl := ok.l
  have hc := ok.c
  have gf := g.f
  have gl := g.l
  have gp := g.p
  have bF : (once (ga e 0).1).length ≤ 10 := Nat.le_trans (once_len _) (by omega)
  have bL : (once (ga e 0).2.1).length ≤ 10 := Nat.le_trans (once_len _) (by omega)
  refine ds_seq (ds_set (dn_call (Pre := pLet 40) (da_cons (dn_var rfl) da_nil) ⟨e, hd, ok, rfl, rfl⟩)) ?_
  refine ds_seq (ds_asg (dn_call (Pre := pGa 40) (da_cons (dn_var rfl) (da_cons dn_int da_nil)) ⟨e, 0, hd, ok, rfl, rfl⟩) (dg_tup (dgs_cons dg_name (dgs_cons dg_name (dgs_cons dg_name dgs_nil))) rfl)) ?_
  refine do_own fun p => ?_
  let I : Nat → Ev := fun i => [some (.d (enc e)), some (.d (.str (Sx (lt e)))), some (.r (.ref p)), none, some (.d (dI (ga e 0).1)), some (.d (dI (ga e 0).2.1)), some (.d (dP (ga e 0).2.2)), none, none]
  let X : Nat → List PyData := fun i => ((places i).map (fol (ga e 0).2.2)).map dT
  refine do_seq (ρ1 := I (ups ((lt e).length : Int).toNat).length) (ds1 := X (ups ((lt e).length : Int).toNat).length) ?_ ?_
  · show DenO p (I 0) (X 0) _ _
    refine do_for (js := [3]) I X (di_rng1 (n := (lt e).length) (da_cons ((dn_cb (da_cons (dn_var (i := 1) rfl) da_nil) (rc_lenS (by rw [len_Sx]; omega))).is (by rw [len_Sx])) da_nil) (by omega) (by omega)) fun i d hdi => ?_
    have hdi' : d = .int i := by
      unfold ups at hdi
      rw [List.getElem?_map] at hdi
      cases c : (List.range ((lt e).length : Int).toNat)[i]? with
      | none => rw [c] at hdi; cases hdi
      | some j =>
        rw [c] at hdi
        cases hdi
        have := (List.getElem?_eq_some_iff.mp c).2
        rw [List.getElem_range] at this
        rw [this]
    subst hdi'
    have hX : X (i + 1) = X i ++ [dT (fol (ga e 0).2.2 i)] := by
      show ((places (i + 1)).map _).map _ = _
      unfold places
      rw [List.range_succ, List.map_append, List.map_append, List.map_append]
      rfl
    refine ⟨(I i).set 3 (some (.d (.int i))), dg_name, ?_⟩
    rw [hX]
    refine do_le (do_app (j := 2) rfl (dn_call (Pre := pOrd) (da_cons (d := dI (((ga e 0).2.2.filter fun q => decide (q.1 = (i : Int))).map (·.2))) ?_ da_nil) ⟨_, ?_, ?_, rfl, rfl⟩) ?_) ?_
    · unfold dI
      rw [List.map_map]
      refine dn_lc (vs := [7, 8]) (ga e 0).2.2 pr (fun q => decide (q.1 = (i : Int))) (PyData.int ∘ (·.2)) (fun q => [some (.d (enc e)), some (.d (.str (Sx (lt e)))), some (.r (.ref p)), some (.d (.int i)), some (.d (dI (ga e 0).1)), some (.d (dI (ga e 0).2.1)), some (.d (dP (ga e 0).2.2)), some (.d (.int q.1)), some (.d (.int q.2))])
        (di_list (dn_var rfl)) (fun q hq => ?_) (fun q hq => dt_test (dn_op (dn_var rfl) (dn_var rfl) rd_eqI)) (fun q hq _ => dn_var rfl) (by omega)
      exact dg_tup (dgs_cons dg_name (dgs_cons dg_name dgs_nil)) rfl
    · rw [List.length_map]
      exact Nat.le_trans (List.length_filter_le _ _) (by omega)
    · have : (once (((ga e 0).2.2.filter fun q => decide (q.1 = (i : Int))).map (·.2))).length ≤ (lt e).length := once_bd fun a ha => by
        obtain ⟨q, hq, rfl⟩ := List.mem_map.mp ha
        have := (g.pi q (List.mem_filter.mp hq).1).2
        omega
      omega
    · have hi : i < (lt e).length := by
        have := (List.getElem?_eq_some_iff.mp hdi).1
        simpa [ups] using this
      simp [X, places]
      omega
    · simp [LeE, I]
  · refine do_freeze (j := 2) rfl (ds_ret ?_)
    have hX : X (ups ((lt e).length : Int).toNat).length = (tab e).W.map dT := by
      simp [X, ups, tab]
    rw [hX]
    refine dn_tup (da_cons (dn_var rfl) (da_cons (dn_call (Pre := pOrd) (da_cons (dn_var rfl) da_nil) ⟨_, by omega, by omega, rfl, rfl⟩) (da_cons (dn_call (Pre := pOrd) (da_cons (dn_var rfl) da_nil) ⟨_, by omega, by omega, rfl, rfl⟩) (da_cons (dn_tuple (dn_var rfl)) (da_cons (dn_call (Pre := pEm 40) (da_cons (dn_var rfl) da_nil) ⟨e, hd, ok, rfl, rfl⟩) da_nil))))) (by show 5 ≤ 100000; decide)
def pPairs (ds : List PyData) (d : PyData) : Prop := ∃ (t : Tb) (F : List Int), TbOk t ∧ ROk t F ∧ ds = [.str (Sx t.ls), dT F] ∧ d = dP (prs t F)
theorem cl_pairs_in (T : Tx K mg aR aS) : Cl P w K mg base 1 "pairs_in" (SpF pPairs) := by
  refine mk_cl T.d_pairs_in sc_pairs_in bd_pairs_in (len_F (by rintro ds d ⟨t, F, _, _, rfl, _⟩; rfl)) (fun f cdv A outer s H vs Q E hr h => ?_)
  refine ⟨_, (pss_one (ps_ret (pe_lc2 (own := [("one", 2), ("other", 3)]) (vs1 := [3]) rfl sc_pairs_in.nd (k_piT K (pv 1)) (blkOk_by (N := ["letters", "places", "one", "other"]) (sc := defScope s_pairs_in) (own := [("one", 2), ("other", 3)]) (by decide +kernel)) (by decide) (fun _ _ _ _ _ => (pg_name (i := 2) sc_pairs_in.nd rfl (Or.inl rfl))) (fun _ _ _ _ _ => pts_nil) (fun _ _ _ _ _ => (k_piT K (pv 1))) (fun _ _ _ _ _ => (pg_name (i := 3) sc_pairs_in.nd rfl (Or.inl rfl))) (fun _ _ _ _ _ => (pts_one (PW.pt (pw_and (pt_cmpR op_lt (pv 2) (pv 3) (nomark _)) (pw_and1 (pt_cmpR op_eq (pe_ix ix_str (pv 0) (pv 2) (fun _ _ => rfl)) (pe_ix ix_str (pv 0) (pv 3) (fun _ _ => rfl)) (nomark _))))))) (fun _ _ _ _ _ => (pe_tup (pa_cons (pv 2) (pa_cons (pv 3) pa_nil))))))), ?_⟩
  refine run_F h fun ds d pre => ?_
  obtain ⟨t, F, ok, fo, rfl, rfl⟩ := pre
  have hF := fo.len ok
  refine ds_ret ?_
  have h := dn_lc2 (ρ := st0 ["letters", "places", "one", "other"] [.str (Sx t.ls), dT F]) (vs := [2, 3]) (vs1 := [3]) F .int (fun _ => F) .int (fun a b => decide (a < b) && decide (t.at_ a = t.at_ b)) (fun a b => pr (a, b))
    (fun a => [some (.d (.str (Sx t.ls))), some (.d (dT F)), some (.d (.int a)), none]) (fun a b => [some (.d (.str (Sx t.ls))), some (.d (dT F)), some (.d (.int a)), some (.d (.int b))])
    (di_tup (K := K) (dn_var (i := 1) rfl)) (fun a ha => DenG.js (js := [2]) (ks := [2, 3]) dg_name (by simp)) (fun a ha => di_tup (K := K) (dn_var (i := 1) rfl)) (fun a ha b hb => dg_name)
    (fun a ha b hb => dt_and (dt_test (dn_op (dn_var (i := 2) rfl) (dn_var (i := 3) rfl) rd_lt)) fun _ => dt_test (dn_op (dn_let ok (dn_var (i := 0) rfl) (dn_var (i := 2) rfl) (fo.2 a ha).1 (fo.2 a ha).2) (dn_let ok (dn_var (i := 0) rfl) (dn_var (i := 3) rfl) (fo.2 b hb).1 (fo.2 b hb).2) rd_eqL))
    (fun a ha b hb _ => dn_tup (da_cons (dn_var (i := 2) rfl) (da_cons (dn_var (i := 3) rfl) da_nil)) (by show 2 ≤ 100000; decide)) ?_ (fun _ _ => by omega)
  · refine h.is ?_
    unfold dP prs
    rw [List.map_flatMap]
    congr 1
    refine congrArg (fun g => List.flatMap g F) (funext fun a => ?_)
    rw [List.map_map]
    rfl
  · intro n hn
    have : ((F.take n).flatMap fun a => (F.filter fun b => decide (a < b) && decide (t.at_ a = t.at_ b)).map fun b => pr (a, b)).length ≤ (F.take n).length * F.length := by
      generalize F.take n = m
      induction m with
      | nil => simp
      | cons a r ih =>
        have := List.length_filter_le (fun b => decide (a < b) && decide (t.at_ a = t.at_ b)) F
        rw [List.flatMap_cons, List.length_append, List.length_map, List.length_cons, Nat.add_mul]
        omega
    have h2 : (F.take n).length ≤ 10 := by rw [List.length_take]; omega
    have := Nat.mul_le_mul h2 hF
    omega
def pNext (ds : List PyData) (d : PyData) : Prop := ∃ (t : Tb) (h : Option (List Int)) (c : Nat), TbOk t ∧ (∀ l, h = some l → l.length ≤ 1 ∧ ∀ a ∈ l, 0 ≤ a ∧ a < t.ls.length) ∧ ds = [t.enc, hD h, .str (Sx [c])] ∧ d = dT (nxt t h c)
theorem cl_next_places (T : Tx K mg aR aS) : Cl P w K mg base 2 "next_places" (SpF pNext) := by
  have c_ordered := cl_ordered (P := P) (w := w) (base := base) T
  refine mk_cl T.d_next_places sc_next_places bd_next_places (len_F (by rintro ds d ⟨t, h, c, _, _, rfl, _⟩; rfl)) (fun f cdv A outer s H vs Q E hr h => ?_)
  refine ⟨_, (pss_cons (ps_asg (pv 0) (k_pgT K (n := 5) rfl (pgs_cons (pg_name (i := 4) sc_next_places.nd rfl (Or.inr rfl)) (pgs_cons (pg_name (i := 5) sc_next_places.nd rfl (Or.inl rfl)) (pgs_cons (pg_name (i := 6) sc_next_places.nd rfl (Or.inl rfl)) (pgs_cons (pg_name (i := 7) sc_next_places.nd rfl (Or.inr rfl)) (pgs_cons (pg_name (i := 8) sc_next_places.nd rfl (Or.inl rfl)) pgs_nil))))))) (pss_cons (ps_set (i := 3) sc_next_places.nd rfl (Or.inl rfl) (pv 5)) (pss_cons (ps_if (pt_cmpR op_notN (pv 1) pe_non (nomark _)) (pss_one (ps_set (i := 3) sc_next_places.nd rfl (Or.inl rfl) (pe_cl c_ordered hr (by first | decide | omega) (by rfl) (pa_cons (pe_lc2 (own := [("place", 9), ("other", 10)]) (vs1 := [10]) rfl sc_next_places.nd (k_piT K (pv 1)) (blkOk_by (N := ["tables", "here", "letter", "found", "letters", "firsts", "lasts", "follow", "empty", "place", "other"]) (sc := defScope s_next_places) (own := [("place", 9), ("other", 10)]) (by decide +kernel)) (by decide) (fun _ _ _ _ _ => (pg_name (i := 9) sc_next_places.nd rfl (Or.inl rfl))) (fun _ _ _ _ _ => pts_nil) (fun _ _ _ _ _ => (k_piT K (pe_ix (k_ixT K) (pv 7) (pv 9) (fun _ _ => rfl)))) (fun _ _ _ _ _ => (pg_name (i := 10) sc_next_places.nd rfl (Or.inl rfl))) (fun _ _ _ _ _ => pts_nil) (fun _ _ _ _ _ => (pv 10))) pa_nil)))) pss_nil) (pss_one (ps_ret (k_tuple K (by rfl) T.n_tuple (pe_lc (own := [("place", 9)]) rfl sc_next_places.nd (k_piT K (pv 3)) (blkOk_by (N := ["tables", "here", "letter", "found", "letters", "firsts", "lasts", "follow", "empty", "place", "other"]) (sc := defScope s_next_places) (own := [("place", 9)]) (by decide +kernel)) (fun _ _ _ _ _ => (pg_name (i := 9) sc_next_places.nd rfl (Or.inl rfl))) (fun _ _ _ _ _ => (pts_one (pt_cmpR op_eq (pe_ix ix_str (pv 4) (pv 9) (fun _ _ => rfl)) (pv 2) (nomark _)))) (fun _ _ _ _ _ => (pv 9))))))))), ?_⟩
  refine run_F h fun ds d pre => ?_
  obtain ⟨t, h, c, ok, hh, rfl, rfl⟩ := pre
  refine ds_seq (ds_asg (d := t.enc) (dn_var rfl) (dg_tup (dgs_cons dg_name (dgs_cons dg_name (dgs_cons dg_name (dgs_cons dg_name (dgs_cons dg_name dgs_nil))))) rfl)) ?_
  refine ds_seq (ds_set (d := dT t.F) (dn_var rfl)) ?_
  have fin : ∀ (ρ : Ev) (r : List Int), ρ[3]? = some (some (.d (dT r))) → ρ[4]? = some (some (.d (.str (Sx t.ls)))) → ρ[2]? = some (some (.d (.str (Sx [c])))) → 9 < ρ.length → ROk t r → DenS (tRet (tThen (tLc (iTup K (tVar 3)) (gName 9) (tTest (tOp rEq (tOp rIxS (tVar 4) (tVar 9)) (tVar 2))) (tVar 9) [9]) (kTup K))) ρ (.rt (dT (r.filter fun p => decide (t.at_ p = c)))) := by
    intro ρ r h3 h4 h2 hl ro
    have wr : ∀ (i : Nat) (s : Sl), i ≠ 9 → ρ[i]? = some (some s) → ∀ x, ((wpE ρ [9]).set 9 x)[i]? = some (some s) := by
      intro i s hi hs x
      rw [List.getElem?_set_ne (by omega)]
      show ((ρ.set 9 none))[i]? = _
      rw [List.getElem?_set_ne (by omega)]
      exact hs
    refine ds_ret (dn_tuple (dn_lc (vs := [9]) r .int (fun p => decide (t.at_ p = c)) .int (fun p => (wpE ρ [9]).set 9 (some (.d (.int p)))) (di_tup (dn_var h3)) (fun p hp => dg_name) (fun p hp => dt_test (dn_op (dn_let ok (dn_var (wr 4 _ (by decide) h4 _)) (dn_var ?_) (ro.2 p hp).1 (ro.2 p hp).2) (dn_var (wr 2 _ (by decide) h2 _)) rd_eqL)) (fun p hp _ => dn_var ?_) (by have := ro.len ok; omega)))
    · rw [List.getElem?_set_self]; simpa [wpE] using hl
    · rw [List.getElem?_set_self]; simpa [wpE] using hl
  cases h with
  | none =>
    refine ds_seq (ds_ifF (dt_test ((dn_op (dn_var (i := 1) rfl) dn_non rd_notN).is rfl)) ds_next) ?_
    exact fin _ t.F rfl rfl rfl (by simp [st0]) ok.f
  | some l =>
    obtain ⟨h1, h2⟩ := hh l rfl
    have ro : ROk t (ord (l.flatMap t.go)) := ⟨ord_up _, fun a ha => by
      obtain ⟨b, hb, hab⟩ := List.mem_flatMap.mp (mem_ord.mp ha)
      exact (ok.ws _ (go_mem ok (h2 b hb).1 (h2 b hb).2)).2 a hab⟩
    have hfl : (l.flatMap t.go).length ≤ 10 := by
      match l, h1, h2 with
      | [], _, _ => simp
      | [a], _, h2 =>
        have := ok.len (ok.ws _ (go_mem ok (h2 a (by simp)).1 (h2 a (by simp)).2))
        simpa using this
    refine ds_seq (ds_ifT (dt_test ((dn_op (dn_var (i := 1) rfl) dn_non rd_notN).is rfl)) (ds_set (d := dT (ord (l.flatMap t.go))) (dn_call (Pre := pOrd) (da_cons (d := dI (l.flatMap t.go)) ?_ da_nil) ⟨_, by omega, Nat.lt_of_le_of_lt (once_len _) (by omega), rfl, rfl⟩))) ?_
    · have h := dn_lc2 (ρ := [some (.d t.enc), some (.d (dT l)), some (.d (.str (Sx [c]))), some (.d (dT t.F)), some (.d (.str (Sx t.ls))), some (.d (dT t.F)), some (.d (dT t.L)), some (.d (.tuple (t.W.map dT))), some (.d (.bool t.b)), none, none]) (vs := [9, 10]) (vs1 := [10]) l .int t.go .int (fun _ _ => true) (fun _ b => .int b)
        (fun a => [some (.d t.enc), some (.d (dT l)), some (.d (.str (Sx [c]))), some (.d (dT t.F)), some (.d (.str (Sx t.ls))), some (.d (dT t.F)), some (.d (dT t.L)), some (.d (.tuple (t.W.map dT))), some (.d (.bool t.b)), some (.d (.int a)), none])
        (fun a b => [some (.d t.enc), some (.d (dT l)), some (.d (.str (Sx [c]))), some (.d (dT t.F)), some (.d (.str (Sx t.ls))), some (.d (dT t.F)), some (.d (dT t.L)), some (.d (.tuple (t.W.map dT))), some (.d (.bool t.b)), some (.d (.int a)), some (.d (.int b))])
        (di_tup (K := K) (dn_var (i := 1) rfl)) (fun a ha => DenG.js (js := [9]) (ks := [9, 10]) dg_name (by simp)) (fun a ha => di_tup (K := K) (dn_go (K := K) ok (dn_var (i := 7) rfl) (dn_var (i := 9) rfl) (h2 a ha).1 (h2 a ha).2)) (fun a ha b hb => dg_name) (fun _ _ _ _ => dt_yes) (fun a ha b hb _ => dn_var (i := 10) rfl) ?_ (fun a ha => by
          have := ok.len (ok.ws _ (go_mem ok (h2 a ha).1 (h2 a ha).2))
          omega)
      · refine h.is ?_
        unfold dI
        rw [List.map_flatMap]
        congr 1
        refine congrArg (fun g => List.flatMap g l) (funext fun a => ?_)
        rw [List.filter_eq_self.mpr (fun _ _ => rfl)]
      · intro n hn
        match l, h1, h2, hfl with
        | [], _, _, _ => simp
        | [a], _, _, hfl =>
          have hfl : (t.go a).length ≤ 10 := by simpa using hfl
          cases n with
          | zero => simp
          | succ n =>
            have := List.length_filter_le (fun _ => true) (t.go a)
            simp
            omega
    · exact fin _ _ rfl rfl rfl (by simp [st0]) ro
/-- no letter of a word has two candidates -/
def One (t : Tb) (w : List Nat) : Prop := ∀ r ∈ rw t none w, r.length ≤ 1
def pRows (ds : List PyData) (d : PyData) : Prop := ∃ (t : Tb) (w : List Nat), TbOk t ∧ One t w ∧ w.length ≤ 24 ∧ ds = [t.enc, .str (Sx w)] ∧ d = .list ((rw t none w).map dT)
theorem stt_ok {t : Tb} (ok : TbOk t) {w : List Nat} (one : One t w) : ∀ (i : Nat) (l : List Int), stt t none w i = some l → l.length ≤ 1 ∧ ∀ a ∈ l, 0 ≤ a ∧ a < t.ls.length := by
  intro i
  induction i with
  | zero => intro l h; cases h
  | succ i ih =>
    intro l h
    have h : (rw t none w)[i]? = some l := h
    refine ⟨one l (List.mem_of_getElem? h), ?_⟩
    have hi : i < w.length := by
      have := (List.getElem?_eq_some_iff.mp h).1
      rw [rw_len] at this
      exact this
    have h2 := rw_get t w none i w[i] (List.getElem?_eq_getElem hi)
    rw [h] at h2
    rw [Option.some.inj h2]
    exact (nxt_ok ok (fun l hl => (ih l hl).2) _).2
theorem cl_rows_of (T : Tx K mg aR aS) : Cl P w K mg base 3 "rows_of" (SpF pRows) := by
  have c_next_places := cl_next_places (P := P) (w := w) (base := base) T
  refine mk_cl T.d_rows_of sc_rows_of bd_rows_of (len_F (by rintro ds d ⟨t, w, _, _, _, rfl, _⟩; rfl)) (fun f cdv A outer s H vs Q E hr h => ?_)
  refine ⟨_, (pss_cons (ps_set (i := 2) sc_rows_of.nd rfl (Or.inl rfl) (pe_lst pa_nil)) (pss_cons (ps_set (i := 3) sc_rows_of.nd rfl (Or.inl rfl) pe_non) (pss_cons (ps_for PassesOwn.never rfl (pi_str (pv 1)) (pg_name (i := 4) sc_rows_of.nd rfl (Or.inl rfl)) (pss_cons (ps_set (i := 3) sc_rows_of.nd rfl (Or.inl rfl) (pe_cl c_next_places hr (by first | decide | omega) (by rfl) (pa_cons (pv 0) (pa_cons (pv 3) (pa_cons (pv 4) pa_nil))))) (pss_one (ps_expr (k_bm K PySem.F.plainAttrs_list PySem.F.slot_list_append PySem.F.type_list_append mt_append (pv 2) (pa_cons (pv 3) pa_nil)))))) (pss_one (ps_ret (pv 2)))))), ?_⟩
  refine run_F h fun ds d pre => ?_
  obtain ⟨t, w, ok, one, hw, rfl, rfl⟩ := pre
  refine do_own fun p => ?_
  refine do_seq (do_pure (ds_set (d := .none) dn_non)) ?_
  let I : Nat → Ev := fun i => [some (.d t.enc), some (.d (.str (Sx w))), some (.r (.ref p)), some (.d (hD (stt t none w i))), none]
  let X : Nat → List PyData := fun i => ((rw t none w).take i).map dT
  refine do_seq (ρ1 := I (sgn (Sx w)).length) (ds1 := X (sgn (Sx w)).length) ?_ ?_
  · show DenO p (I 0) (X 0) _ _
    refine do_for (js := [4]) I X (di_str (dn_var (i := 1) rfl)) fun i d hdi => ?_
    rw [sgn_Sx, List.getElem?_map] at hdi
    cases hc : w[i]? with
    | none => rw [hc] at hdi; cases hdi
    | some c =>
      rw [hc] at hdi
      cases hdi
      have hg := rw_get t w none i c hc
      have hX : X (i + 1) = X i ++ [dT (nxt t (stt t none w i) c)] := by
        show ((rw t none w).take (i + 1)).map dT = _
        rw [take_succ_get hg, List.map_append]
        rfl
      have hI : I (i + 1) = [some (.d t.enc), some (.d (.str (Sx w))), some (.r (.ref p)), some (.d (dT (nxt t (stt t none w i) c))), none] := by
        show [_, _, _, some (Sl.d (hD ((rw t none w)[i]?))), _] = _
        rw [hg]
        rfl
      refine ⟨(I i).set 4 (some (.d (.str (Sx [c])))), dg_name, ?_⟩
      rw [hX, hI]
      refine do_seq (do_pure (ds_set (dn_call (Pre := pNext) (da_cons (dn_var (i := 0) rfl) (da_cons (dn_var (i := 3) rfl) (da_cons (dn_var (i := 4) rfl) da_nil))) ⟨t, _, c, ok, stt_ok ok one i, rfl, rfl⟩))) ?_
      refine do_le (do_app (j := 2) rfl (dn_var (i := 3) rfl) ?_) ?_
      · show (((rw t none w).take i).map dT).length < 100000
        rw [List.length_map, List.length_take, rw_len]
        omega
      · simp [LeE, I]
  · have hX : X (sgn (Sx w)).length = (rw t none w).map dT := by
      show ((rw t none w).take (sgn (Sx w)).length).map dT = _
      rw [sgn_Sx, List.length_map, ← rw_len t none w, List.take_length]
    rw [hX]
    exact do_freeze (j := 2) rfl (ds_ret (dn_var rfl))
end
end Nd
set_option Elab.async false
set_option linter.all false
set_option maxRecDepth 100000
set_option maxHeartbeats 4000000
namespace Nd
open PySem PySem.Spec PyProof.Rows L2
open Evl (Ex Ex.refl Ex.trans Ex.new)
abbrev s_counts_of : Stmt := topS 29
theorem sc_counts_of : FnScope ["tables", "word", "rows", "counts", "behind", "row", "here", "place", "other"] ["tables", "word"] (defScope s_counts_of) := ⟨rfl, rfl, rfl, by decide +kernel, rfl, by decide +kernel, by decide +kernel⟩
theorem bd_counts_of (kV doc pm : Value) (an : Option Addr) (cdv ct : Value) (us : List Value) (hl : us.length = (["tables", "word"] : List Str).length) : bindArgs (PySem.W.fnOf "counts_of" "counts_of" (defArgs s_counts_of) (defBody s_counts_of) (defScope s_counts_of) .none kV doc pm an cdv ct) ⟨us, []⟩ = pure ((["tables", "word"] : List Str).zip us) :=
  match us, hl with | [_, _], _ => rfl
/-! ### a loop by its states -/
def lp {S α : Type} (step : S → α → Option S) : S → List α → S × Bool
  | s, [] => (s, true)
  | s, x :: xs => match step s x with
    | some s' => lp step s' xs
    | none => (s, false)
section
variable {ρ : Ev} {t u : TS} {d : PyData} {p : Addr} {S α : Type}
theorem do_forS {wi : TI} {g : TG} {js : List Nat} {a : α → PyData} {es : List α} {s0 : S} (step : S → α → Option S) (inv : Nat → S → Prop) (I : S → Ev) (X : S → List PyData) (z : S → PyData) (hi : DenI wi (I s0) (es.map a)) (h0 : inv 0 s0) (hs : ∀ i s s' x, i < es.length → inv i s → x ∈ es → step s x = some s' → inv (i + 1) s')
    (hb : ∀ i s s' x, i < es.length → inv i s → x ∈ es → step s x = some s' → ∃ ρ1, DenG g (a x) (I s) ρ1 js ∧ DenO p ρ1 (X s) t (.nx (I s') (X s')))
    (hr : ∀ i s x, i < es.length → inv i s → x ∈ es → step s x = none → ∃ ρ1, DenG g (a x) (I s) ρ1 js ∧ DenO p ρ1 (X s) t (.rt (z s)))
    (h1 : (lp step s0 es).2 = true → inv es.length (lp step s0 es).1 → DenO p (I (lp step s0 es).1) (X (lp step s0 es).1) u (.rt d)) (h2 : (lp step s0 es).2 = false → z (lp step s0 es).1 = d) : DenO p (I s0) (X s0) (tSeq (tFor wi g t) u) (.rt d) := fun M σ H xs m hm e hp hd Dn q => by
  refine hi M σ H m e _ fun J H1 e1 hJ => ?_
  refine ⟨fun i m' σ' H' => i + m' = es.length ∧ ∃ s, inv i s ∧ lp step s (es.drop i) = lp step s0 es ∧ Xq p H1 H' ∧ EnvR M H' σ' (I s) ∧ ∃ xs, H' p = some (.lst xs) ∧ DtL M H' xs (X s), ⟨es.length, by omega, s0, h0, rfl, .refl, e.ex e1, xs, e1 _ _ hp, hd.ex e1⟩, ?_⟩
  rintro i m' σ' H2 ⟨hm', s, is, hl, x2, r2, xs2, hp2, hd2⟩
  obtain ⟨go, st⟩ := hJ M H2 (x2.grw hm)
  have mk := x2.mok (m.ex e1) hp2
  by_cases hi' : i < es.length
  · have hx : es[i]? = some es[i] := List.getElem?_eq_getElem hi'
    have mem : es[i] ∈ es := List.getElem_mem hi'
    have hdi : (es.map a)[i]? = some (a es[i]) := by rw [List.getElem?_map, hx]; rfl
    obtain ⟨gg, yl⟩ := go i _ hdi
    rw [List.drop_eq_getElem_cons hi', lp] at hl
    refine .inr ⟨gg, fun σ' H' => ∃ s', inv (i + 1) s' ∧ lp step s' (es.drop (i + 1)) = lp step s0 es ∧ Xq p H1 H' ∧ EnvR M H' σ' (I s') ∧ ∃ xs, H' p = some (.lst xs) ∧ DtL M H' xs (X s'), fun σ' H' hN => ⟨m' - 1, by omega, by omega, hN⟩, fun x H3 hx => ?_⟩
    obtain ⟨ex3, dx⟩ := yl x H3 hx
    cases c : step s es[i] with
    | some s' =>
      rw [c] at hl
      obtain ⟨ρ1, hg, hs'⟩ := hb i s s' _ hi' is mem c
      refine hg M σ' H3 x (mk.ex ex3) (r2.ex ex3) dx _ fun σ3 _ e3 => ?_
      exact hs' M σ3 H3 xs2 (mk.ex ex3) hm e3 (ex3 _ _ hp2) (hd2.ex ex3) _ fun σ4 H4 xs4 x4 r4 hp4 hd4 => ⟨s', hs i s s' _ hi' is mem c, hl, x2.trans ((Xq.of ex3).trans x4), r4, xs4, hp4, hd4⟩
    | none =>
      rw [c] at hl
      have hl : (s, false) = lp step s0 es := hl
      have h3 := h2 (by rw [← hl])
      rw [← hl] at h3
      obtain ⟨ρ1, hg, hs'⟩ := hr i s _ hi' is mem c
      refine hg M σ' H3 x (mk.ex ex3) (r2.ex ex3) dx _ fun σ3 _ e3 => ?_
      refine hs' M σ3 H3 xs2 (mk.ex ex3) hm e3 (ex3 _ _ hp2) (hd2.ex ex3) _ fun v H4 x4 r4 => ?_
      rw [h3] at r4
      exact q v H4 ((Xq.of e1).trans (x2.trans ((Xq.of ex3).trans x4))) r4
  · have ei : i = es.length := by omega
    subst ei
    rw [List.drop_length, lp] at hl
    rw [List.length_map] at st
    have h3 := h1 (by rw [← hl])
    rw [← hl] at h3
    exact .inl ⟨st, h3 is M σ' H2 xs2 mk hm r2 hp2 hd2 Dn fun v H' x r => q v H' (((Xq.of e1).trans x2).trans x) r⟩
end
theorem do_assoc {p : Addr} {ρ : Ev} {ds : List PyData} {a b c : TS} {o : Oq} (h : DenO p ρ ds (tSeq (tSeq a b) c) o) : DenO p ρ ds (tSeq a (tSeq b c)) o := h
theorem at0 {α : Type} {a : α} {l : List α} : atI (a :: l) 0 = some a := atI_nat (j := 0) rfl
theorem dI_ns {l : List Int} {s : Str} : dI l ≠ .str s := fun z => by unfold dI at z; cases z
/-! ### counts -/
def cv (t : Tb) (b : Option (List (Int × Int))) (p : Int) : Int := match b with
  | none => if decide (p ∈ t.L) then 1 else 0
  | some h => (((t.go p).filter fun o => (getI h o).isSome).map fun o => (getI h o).getD 0).sum
def cn (t : Tb) : List (List Int) → List (List (Int × Int))
  | [] => []
  | r :: rs => (r.map fun p => (p, cv t (cn t rs).head? p)) :: cn t rs
def bD : Option (List (Int × Int)) → PyData
  | none => .none
  | some l => dD l
theorem cn_len (t : Tb) : ∀ rs, (cn t rs).length = rs.length
  | [] => rfl
  | r :: rs => by rw [cn, List.length_cons, cn_len t rs, List.length_cons]
theorem getI_none {l : List (Int × Int)} {k : Int} (h : ∀ q ∈ l, q.1 ≠ k) : getI l k = none := by
  unfold getI
  rw [List.find?_eq_none.mpr (by simpa using h)]
  rfl
theorem rw_ok {t : Tb} (ok : TbOk t) {w : List Nat} (one : One t w) : ∀ r ∈ rw t none w, ROk t r := fun r hr => by
  obtain ⟨i, hi⟩ := List.mem_iff_getElem?.mp hr
  have hl : i < w.length := by
    have := (List.getElem?_eq_some_iff.mp hi).1
    rw [rw_len] at this
    exact this
  have h2 := rw_get t w none i w[i] (List.getElem?_eq_getElem hl)
  rw [hi] at h2
  rw [Option.some.inj h2]
  exact nxt_ok ok (fun l hl => (stt_ok ok one i l hl).2) _
theorem anyI {l : List Int} {p : Int} : ((l.map PyData.int).any fun y => eqF y (.int p)) = decide (p ∈ l) := by
  rw [List.any_map]
  induction l with
  | nil => rfl
  | cons a r ih =>
    rw [List.any_cons, ih]
    show (a == p || _) = _
    by_cases h : a = p
    · subst h; simp
    · have : (a == p) = false := beq_eq_false_iff_ne.mpr h
      rw [this, Bool.false_or]
      have h' : ¬ p = a := fun z => h z.symm
      simp [h']
section
variable {P : Program} {w : World} {K : PySem.W.Frag} {mg : Str → Option Value} {base : Heap} {aR aS : Addr}
/-- place in places -/
theorem rd_inI {l : List Int} {p : Int} : R2D (rIn K false) (.int p) (dT l) (.bool (decide (p ∈ l))) := rd_inT rfl (by simp [flatD]) anyI
theorem rd_inIL {l : List Int} {p : Int} : R2D (rIn K false) (.int p) (dI l) (.bool (decide (p ∈ l))) := rd_inL rfl (by simp [flatD]) anyI
def pCn (ds : List PyData) (d : PyData) : Prop := ∃ (t : Tb) (w : List Nat), TbOk t ∧ One t w ∧ w.length ≤ 24 ∧ ds = [t.enc, .str (Sx w)] ∧ d = .list ((cn t (rw t none w)).map dD)
theorem cl_counts_of (T : Tx K mg aR aS) : Cl P w K mg base 4 "counts_of" (SpF pCn) := by
  have c_rows_of := cl_rows_of (P := P) (w := w) (base := base) T
  refine mk_cl T.d_counts_of sc_counts_of bd_counts_of (len_F (by rintro ds d ⟨t, w, _, _, _, rfl, _⟩; rfl)) (fun f cdv A outer s H vs Q E hr h => ?_)
  refine ⟨_, (pss_cons (ps_set (i := 2) sc_counts_of.nd rfl (Or.inl rfl) (pe_cl c_rows_of hr (by first | decide | omega) (by rfl) (pa_cons (pv 0) (pa_cons (pv 1) pa_nil)))) (pss_cons (ps_set (i := 3) sc_counts_of.nd rfl (Or.inl rfl) (pe_lst pa_nil)) (pss_cons (ps_set (i := 4) sc_counts_of.nd rfl (Or.inr rfl) pe_non) (pss_cons (ps_for PassesOwn.never rfl (k_piL K (k_revL K (pv 2))) (pg_name (i := 5) sc_counts_of.nd rfl (Or.inl rfl)) (pss_cons (ps_set (i := 6) sc_counts_of.nd rfl (Or.inl rfl) pe_dnewK) (pss_cons (ps_for PassesOwn.never rfl (k_piT K (pv 5)) (pg_name (i := 7) sc_counts_of.nd rfl (Or.inl rfl)) (pss_one (ps_if (pt_cmpR op_isN (pv 4) pe_non (nomark _)) (pss_one (ps_dput (hu_of hr) (pv 6) (pv 7) (pe_callTy call_int1 (by rfl) T.n_int (by decide +kernel) (pa_cons (pe_cmpR (k_in K) (pv 7) (pe_ix (k_ixT K) (pv 0) pe_int (fun _ _ => rfl)) (by rfl)) pa_nil)) rfl)) (pss_one (ps_dput (hu_of hr) (pv 6) (pv 7) (pe_callB (k_sum K rfl) (by rfl) T.n_sum (by decide +kernel) (pa_cons (pe_lc (own := [("other", 8)]) rfl sc_counts_of.nd (k_piT K (pe_ix (k_ixT K) (pe_ix (k_ixT K) (pv 0) pe_int (fun _ _ => rfl)) (pv 7) (fun _ _ => rfl))) (blkOk_by (N := ["tables", "word", "rows", "counts", "behind", "row", "here", "place", "other"]) (sc := defScope s_counts_of) (own := [("other", 8)]) (by decide +kernel)) (fun _ _ _ _ _ => (pg_name (i := 8) sc_counts_of.nd rfl (Or.inl rfl))) (fun _ _ _ _ _ => (pts_one (pt_cmp (pc_din (hu_of hr) (pv 8) (pv 4))))) (fun _ _ _ _ _ => (pe_dget (hu_of hr) (pv 4) (pv 8) (fun _ _ => rfl)))) pa_nil)) rfl))))) (pss_cons (ps_expr (k_bm K PySem.F.plainAttrs_list PySem.F.slot_list_append PySem.F.type_list_append mt_append (pv 3) (pa_cons (pv 6) pa_nil))) (pss_one (ps_set (i := 4) sc_counts_of.nd rfl (Or.inr rfl) (pv 6))))))) (pss_one (ps_ret (k_revL K (pv 3)))))))), ?_⟩
  refine run_F h fun ds d pre => ?_
  obtain ⟨t, w, ok, one, hw, rfl, rfl⟩ := pre
  generalize hrs : rw t none w = rs
  have rok : ∀ r ∈ rs, ROk t r := fun r hr => rw_ok ok one r (by rw [hrs]; exact hr)
  have rl : rs.length ≤ 24 := by rw [← hrs, rw_len]; exact hw
  refine ds_seq (ds_set (d := .list (rs.map dT)) (dn_call (Pre := pRows) (da_cons (dn_var rfl) (da_cons (dn_var rfl) da_nil)) ⟨t, w, ok, one, hw, rfl, by rw [hrs]⟩)) ?_
  refine do_own fun p => ?_
  refine do_seq (do_pure (ds_set (d := .none) dn_non)) ?_
  let sx : Nat → List (List Int) := fun i => rs.drop (rs.length - i)
  let I : Nat → Ev := fun i => [some (.d t.enc), some (.d (.str (Sx w))), some (.d (.list (rs.map dT))), some (.r (.ref p)), some (.d (bD (cn t (sx i)).head?)), none, none, none, none]
  let X : Nat → List PyData := fun i => ((cn t (sx i)).reverse).map dD
  have hX0 : X 0 = [] := by simp [X, sx, cn]
  have hI0 : I 0 = [some (.d t.enc), some (.d (.str (Sx w))), some (.d (.list (rs.map dT))), some (.r (.ref p)), some (.d .none), none, none, none, none] := by simp [I, sx, cn, bD]
  refine do_seq (ρ1 := I (rs.map dT).reverse.length) (ds1 := X (rs.map dT).reverse.length) ?_ ?_
  · refine (?_ : ∀ ρ ds, ρ = I 0 → ds = X 0 → DenO p ρ ds _ _) _ _ hI0.symm hX0.symm
    rintro _ _ rfl rfl
    refine do_for (js := [5]) I X (di_list (dn_rev (dn_var rfl))) fun i d hdi => ?_
    have hi : i < rs.length := by
      have := (List.getElem?_eq_some_iff.mp hdi).1
      simpa using this
    have hr : rs[rs.length - 1 - i]? = some rs[rs.length - 1 - i] := List.getElem?_eq_getElem (by omega)
    have hd : d = dT rs[rs.length - 1 - i] := by
      rw [List.getElem?_reverse (by simpa using hi), List.length_map, List.getElem?_map, hr] at hdi
      exact (Option.some.inj hdi).symm
    subst hd
    have hsx : sx (i + 1) = rs[rs.length - 1 - i] :: sx i := by
      show rs.drop (rs.length - (i + 1)) = _
      have e : rs.length - (i + 1) = rs.length - 1 - i := by omega
      rw [e, List.drop_eq_getElem_cons (by omega)]
      congr 1
      show rs.drop _ = rs.drop _
      congr 1
      omega
    generalize hrr : rs[rs.length - 1 - i] = r at *
    have ro : ROk t r := rok r (by rw [← hrr]; exact List.getElem_mem _)
    generalize hh : (r.map fun q => (q, cv t (cn t (sx i)).head? q)) = here
    have hcn : cn t (sx (i + 1)) = here :: cn t (sx i) := by rw [hsx, cn, hh]
    have hXi : X (i + 1) = X i ++ [dD here] := by
      show ((cn t (sx (i + 1))).reverse).map dD = _
      rw [hcn, List.reverse_cons, List.map_append]
      rfl
    have hIi : I (i + 1) = [some (.d t.enc), some (.d (.str (Sx w))), some (.d (.list (rs.map dT))), some (.r (.ref p)), some (.d (dD here)), none, none, none, none] := by
      show [_, _, _, _, some (Sl.d (bD (cn t (sx (i + 1))).head?)), _, _, _, _] = _
      rw [hcn]
      rfl
    generalize hb : (cn t (sx i)).head? = b at *
    refine ⟨(I i).set 5 (some (.d (dT r))), dg_name, ?_⟩
    have hIi0 : (I i).set 5 (some (.d (dT r))) = [some (.d t.enc), some (.d (.str (Sx w))), some (.d (.list (rs.map dT))), some (.r (.ref p)), some (.d (bD b)), some (.d (dT r)), none, none, none] := by
      show [_, _, _, _, some (Sl.d (bD (cn t (sx i)).head?)), _, _, _, _] = _
      rw [hb]
    rw [hXi, hIi, hIi0]
    have rl := ro.len ok
    let I2 : Addr → Nat → Ev := fun q i => [some (.d t.enc), some (.d (.str (Sx w))), some (.d (.list (rs.map dT))), some (.r (.ref p)), some (.d (bD b)), some (.d (dT r)), some (.r (.ref q)), none, none]
    let X2 : Nat → List (Int × Int) := fun i => (r.take i).map fun q => (q, cv t b q)
    have hX2 : X2 (r.map PyData.int).length = here := by
      show (r.take (r.map PyData.int).length).map _ = _
      rw [List.length_map, List.take_length, ← hh]
    refine do_assoc (do_seq (do_pure (ds_dict (l := here) (I := fun q => I2 q (r.map PyData.int).length) (ρ1 := [some (.d t.enc), some (.d (.str (Sx w))), some (.d (.list (rs.map dT))), some (.r (.ref p)), some (.d (bD b)), none, some (.d (dD here)), none, none]) (fun q => ?_) (fun q => rfl) fun q => ?_)) ?_)
    · rw [← hX2]
      show DenD q (I2 q 0) (X2 0) _ _ _
      refine dd_for (js := [7]) (I2 q) X2 (di_tup (dn_var (i := 5) rfl)) fun i d hdi => ?_
      have hi2 : i < r.length := by
        have := (List.getElem?_eq_some_iff.mp hdi).1
        simpa using this
      have hg : r[i]? = some r[i] := List.getElem?_eq_getElem hi2
      rw [List.getElem?_map, hg] at hdi
      obtain rfl := (Option.some.inj hdi).symm
      have hX3 : X2 (i + 1) = X2 i ++ [(r[i], cv t b r[i])] := by
        show (r.take (i + 1)).map _ = _
        rw [take_succ_get hg, List.map_append]
        rfl
      have mem := ro.2 r[i] (List.getElem_mem hi2)
      have hn : getI (X2 i) r[i] = none := getI_none fun q hq => by
        obtain ⟨a, ha, rfl⟩ := List.mem_map.mp hq
        obtain ⟨k, hk⟩ := List.mem_iff_getElem?.mp ha
        rw [List.getElem?_take] at hk
        split at hk
        · rename_i hki
          obtain ⟨hk1, hk2⟩ := List.getElem?_eq_some_iff.mp hk
          have := (List.pairwise_iff_getElem.mp ro.1) k i hk1 hi2 hki
          rw [hk2] at this
          show a ≠ _
          omega
        · cases hk
      have hlen : (X2 i).length < 100000 := by
        show ((r.take i).map _).length < _
        rw [List.length_map, List.length_take]
        omega
      refine ⟨(I2 q i).set 7 (some (.d (.int r[i]))), dg_name, ?_⟩
      rw [hX3]
      refine dd_le (?_ : DenD q _ _ _ ((I2 q i).set 7 (some (.d (.int r[i])))) _) (by simp [LeE, I2])
      have hb4 : ((I2 q i).set 7 (some (.d (.int r[i]))))[4]? = some (some (.d (bD b))) := rfl
      refine dd_if (c := b.isNone) (dt_test ((dn_op (dn_var hb4) dn_non rd_isN).is ?_)) (fun hc => ?_) (fun hc => ?_)
      · cases b <;> rfl
      · refine dd_put rfl (dn_var rfl) ((dn_cb (da_cons (dn_op (dn_var (i := 7) rfl) (dn_t2 (t := t) (dn_var (i := 0) rfl)) rd_inI) da_nil) rc_intB).is ?_) hn hlen
        cases b with
        | none => rfl
        | some h => cases hc
      · cases b with
        | none => cases hc
        | some h =>
          refine dd_put rfl (dn_var rfl) (dn_cb (da_cons ?_ da_nil) rc_sum) hn hlen
          rw [List.map_map]
          refine dn_lc (t.go r[i]) .int (fun o => (getI h o).isSome) (fun o => .int ((getI h o).getD 0)) (fun o => [some (.d t.enc), some (.d (.str (Sx w))), some (.d (.list (rs.map dT))), some (.r (.ref p)), some (.d (dD h)), some (.d (dT r)), some (.r (.ref q)), some (.d (.int r[i])), some (.d (.int o))])
            (di_tup (dn_go ok (dn_t3 (dn_var (i := 0) rfl)) (dn_var (i := 7) rfl) mem.1 mem.2)) (fun o ho => dg_name) (fun o ho => dt_B (dn_din (dn_var (i := 8) rfl) (dn_var (i := 4) rfl))) (fun o ho hs => ?_) ?_
          · obtain ⟨v, hv⟩ := Option.isSome_iff_exists.mp hs
            refine (dn_dget (dn_var (i := 4) rfl) (dn_var (i := 8) rfl) hv).is ?_
            rw [hv]
            rfl
          · have := ok.len (ok.ws _ (go_mem ok mem.1 mem.2))
            omega
    · simp [LeE, I2]
    · refine do_seq (do_app (j := 3) rfl (dn_var (i := 6) rfl) ?_) (do_le (do_pure (ds_set (d := dD here) (dn_var (i := 6) rfl))) ?_)
      · show (((cn t (sx i)).reverse).map dD).length < 100000
        rw [List.length_map, List.length_reverse, cn_len]
        show (rs.drop (rs.length - i)).length < 100000
        rw [List.length_drop]
        omega
      · simp [LeE]
  · refine do_freeze (j := 3) rfl (ds_ret ?_)
    refine (dn_rev (dn_var (i := 3) rfl)).is ?_
    show PyData.list (((cn t (sx (rs.map dT).reverse.length)).reverse).map dD).reverse = _
    rw [← List.map_reverse, List.reverse_reverse]
    have e : sx (rs.map dT).reverse.length = rs := by
      show rs.drop (rs.length - (rs.map dT).reverse.length) = rs
      simp
    rw [e]
end
end Nd
set_option Elab.async false
set_option linter.all false
set_option maxRecDepth 100000
set_option maxHeartbeats 4000000
namespace Nd
open PySem PySem.Spec PyProof.Rows L2
open Evl (Ex Ex.refl Ex.trans Ex.new)
abbrev s_count_markings : Stmt := topS 30
theorem sc_count_markings : FnScope ["expression", "word", "tables", "counts"] ["expression", "word"] (defScope s_count_markings) := ⟨rfl, rfl, rfl, by decide +kernel, rfl, by decide +kernel, by decide +kernel⟩
theorem bd_count_markings (kV doc pm : Value) (an : Option Addr) (cdv ct : Value) (us : List Value) (hl : us.length = (["expression", "word"] : List Str).length) : bindArgs (PySem.W.fnOf "count_markings" "count_markings" (defArgs s_count_markings) (defBody s_count_markings) (defScope s_count_markings) .none kV doc pm an cdv ct) ⟨us, []⟩ = pure ((["expression", "word"] : List Str).zip us) :=
  match us, hl with | [_, _], _ => rfl
abbrev s_first_marking : Stmt := topS 31
theorem sc_first_marking : FnScope ["expression", "word", "tables", "found", "allowed", "here", "good", "place"] ["expression", "word"] (defScope s_first_marking) := ⟨rfl, rfl, rfl, by decide +kernel, rfl, by decide +kernel, by decide +kernel⟩
theorem bd_first_marking (kV doc pm : Value) (an : Option Addr) (cdv ct : Value) (us : List Value) (hl : us.length = (["expression", "word"] : List Str).length) : bindArgs (PySem.W.fnOf "first_marking" "first_marking" (defArgs s_first_marking) (defBody s_first_marking) (defScope s_first_marking) .none kV doc pm an cdv ct) ⟨us, []⟩ = pure ((["expression", "word"] : List Str).zip us) :=
  match us, hl with | [_, _], _ => rfl
abbrev s_conflicts_in : Stmt := topS 34
theorem sc_conflicts_in : FnScope ["tables", "found", "places", "pair"] ["tables"] (defScope s_conflicts_in) := ⟨rfl, rfl, rfl, by decide +kernel, rfl, by decide +kernel, by decide +kernel⟩
theorem bd_conflicts_in (kV doc pm : Value) (an : Option Addr) (cdv ct : Value) (us : List Value) (hl : us.length = (["tables"] : List Str).length) : bindArgs (PySem.W.fnOf "conflicts_in" "conflicts_in" (defArgs s_conflicts_in) (defBody s_conflicts_in) (defScope s_conflicts_in) .none kV doc pm an cdv ct) ⟨us, []⟩ = pure ((["tables"] : List Str).zip us) :=
  match us, hl with | [_], _ => rfl
/-- how many markings, as the program counts them -/
def cm (t : Tb) (w : List Nat) : Int := match cn t (rw t none w) with
  | [] => if t.b then 1 else 0
  | h :: _ => (h.map (·.2)).sum
def stepF (t : Tb) (s : List Int × List Int) (h : List (Int × Int)) : Option (List Int × List Int) := match (srt (h.map (·.1))).filter (fun q => decide (0 < (getI h q).getD 0) && decide (q ∈ s.2)) with
  | [] => none
  | g :: _ => some (s.1 ++ [g], t.go g)
/-- the first marking, as the program finds it -/
def fm (t : Tb) (w : List Nat) : PyData := if w.isEmpty then (if t.b then dT [] else .none) else
  if (lp (stepF t) ([], t.F) (cn t (rw t none w))).2 then dT (lp (stepF t) ([], t.F) (cn t (rw t none w))).1.1 else .none
theorem cn_keys {t : Tb} : ∀ {rs : List (List Int)} {h : List (Int × Int)}, h ∈ cn t rs → ∃ r ∈ rs, h.map (·.1) = r
  | [], h, hh => by simp [cn] at hh
  | r :: rs, h, hh => by
    rw [cn] at hh
    rcases List.mem_cons.mp hh with rfl | hh
    · exact ⟨r, by simp, by rw [List.map_map]; exact List.map_id r⟩
    · obtain ⟨r', h1, h2⟩ := cn_keys hh
      exact ⟨r', List.mem_cons_of_mem _ h1, h2⟩
theorem getI_some {l : List (Int × Int)} {k : Int} (h : k ∈ l.map (·.1)) : ∃ v, getI l k = some v := by
  obtain ⟨q, hq, e⟩ := List.mem_map.mp h
  unfold getI
  cases c : l.find? fun p => decide (p.1 = k) with
  | some q => exact ⟨q.2, rfl⟩
  | none =>
    have := List.find?_eq_none.mp c q hq
    simp [e] at this
section
variable {P : Program} {w : World} {K : PySem.W.Frag} {mg : Str → Option Value} {base : Heap} {aR aS : Addr}
def pCm (ds : List PyData) (d : PyData) : Prop := ∃ (e : Xp) (w : List Nat), dp e < 40 ∧ Ok e ∧ WOk w ∧ One (tab e) w ∧ ds = [enc e, .str (Sx w)] ∧ d = .int (cm (tab e) w)
theorem cl_count_markings (T : Tx K mg aR aS) : Cl P w K mg base 46 "count_markings" (SpF pCm) := by
  have c_check_both := cl_check_both (P := P) (w := w) (base := base) T
  have c_tables_of := cl_tables_of (P := P) (w := w) (base := base) T
  have c_counts_of := cl_counts_of (P := P) (w := w) (base := base) T
  refine mk_cl T.d_count_markings sc_count_markings bd_count_markings (len_F (by rintro ds d ⟨e, w, _, _, _, _, rfl, _⟩; rfl)) (fun f cdv A outer s H vs Q E hr h => ?_)
  refine ⟨_, (pss_cons (ps_expr (pe_cl c_check_both hr (by first | decide | omega) (by rfl) (pa_cons (pv 0) (pa_cons (pv 1) pa_nil)))) (pss_cons (ps_set (i := 2) sc_count_markings.nd rfl (Or.inl rfl) (pe_cl c_tables_of hr (by first | decide | omega) (by rfl) (pa_cons (pv 0) pa_nil))) (pss_cons (ps_set (i := 3) sc_count_markings.nd rfl (Or.inl rfl) (pe_cl c_counts_of hr (by first | decide | omega) (by rfl) (pa_cons (pv 2) (pa_cons (pv 1) pa_nil)))) (pss_one (ps_ret (pe_ifExp (k_truth K (pv 3) (by intro _; rfl)) (pe_callB (k_sum K rfl) (by rfl) T.n_sum (by decide +kernel) (pa_cons (pe_listVals rfl (by rfl) T.n_list (pe_ix (k_ixL K) (pv 3) pe_int (fun _ _ => rfl))) pa_nil)) (pe_callTy call_int1 (by rfl) T.n_int (by decide +kernel) (pa_cons (pe_ix (k_ixT K) (pv 2) pe_int (fun _ _ => rfl)) pa_nil)))))))), ?_⟩
  refine run_F h fun ds d pre => ?_
  obtain ⟨e, w, hd, ok, wok, one, rfl, rfl⟩ := pre
  have tok := tab_ok ok
  refine ds_seq (ds_drop (dn_call (Pre := pChkB) (da_cons (dn_var rfl) (da_cons (dn_var rfl) da_nil)) ⟨e, w, hd, ok, wok, rfl, rfl⟩)) ?_
  refine ds_seq (ds_set (dn_call (Pre := pTab) (da_cons (dn_var rfl) da_nil) ⟨e, hd, ok, rfl, rfl⟩)) ?_
  refine ds_seq (ds_set (d := .list ((cn (tab e) (rw (tab e) none w)).map dD)) (dn_call (Pre := pCn) (da_cons (dn_var (i := 2) rfl) (da_cons (dn_var (i := 1) rfl) da_nil)) ⟨tab e, w, tok, one, wok.1, rfl, rfl⟩)) ?_
  generalize hc : cn (tab e) (rw (tab e) none w) = cs
  refine ds_ret (dn_if (b := !(cs.map dD).isEmpty) (dk_truth (dn_var (i := 3) rfl) rfl (fun s z => nomatch z)) (fun hb => ?_) (fun hb => ?_))
  · unfold cm
    rw [hc]
    cases cs with
    | nil => cases hb
    | cons h r => exact dn_cb (da_cons (dn_vals (l := h) (dn_ixL (dn_var (i := 3) rfl) at0)) da_nil) rc_sum
  · unfold cm
    rw [hc]
    cases cs with
    | nil => exact dn_cb (da_cons (dn_t4 (t := tab e) (dn_var (i := 2) rfl)) da_nil) rc_intB
    | cons h r => cases hb
def pFm (ds : List PyData) (d : PyData) : Prop := ∃ (e : Xp) (w : List Nat), dp e < 40 ∧ Ok e ∧ WOk w ∧ One (tab e) w ∧ ds = [enc e, .str (Sx w)] ∧ d = fm (tab e) w
theorem less_tup {M : Mt} {p : Addr} {H : Hp} {v : V} {d : PyData} (h : Dt M H v d) : Dt (fun b => M b ∧ b ≠ p) H v d := h.less fun b z => z.1
theorem cl_first_marking (T : Tx K mg aR aS) : Cl P w K mg base 46 "first_marking" (SpF pFm) := by
  have c_check_both := cl_check_both (P := P) (w := w) (base := base) T
  have c_tables_of := cl_tables_of (P := P) (w := w) (base := base) T
  have c_counts_of := cl_counts_of (P := P) (w := w) (base := base) T
  refine mk_cl T.d_first_marking sc_first_marking bd_first_marking (len_F (by rintro ds d ⟨e, w, _, _, _, _, rfl, _⟩; rfl)) (fun f cdv A outer s H vs Q E hr h => ?_)
  refine ⟨_, (pss_cons (ps_expr (pe_cl c_check_both hr (by first | decide | omega) (by rfl) (pa_cons (pv 0) (pa_cons (pv 1) pa_nil)))) (pss_cons (ps_set (i := 2) sc_first_marking.nd rfl (Or.inl rfl) (pe_cl c_tables_of hr (by first | decide | omega) (by rfl) (pa_cons (pv 0) pa_nil))) (pss_cons (ps_if (pt_cmpR op_eq (pv 1) pe_str (nomark _)) (pss_one (ps_ret (pe_ifExp (pt_val (pe_ix (k_ixT K) (pv 2) pe_int (fun _ _ => rfl))) (pe_tup pa_nil) pe_non))) pss_nil) (pss_cons (ps_set (i := 3) sc_first_marking.nd rfl (Or.inl rfl) (pe_lst pa_nil)) (pss_cons (ps_set (i := 4) sc_first_marking.nd rfl (Or.inr rfl) (pe_ix (k_ixT K) (pv 2) pe_int (fun _ _ => rfl))) (pss_cons (ps_for PassesOwn.never rfl (k_piL K (pe_cl c_counts_of hr (by first | decide | omega) (by rfl) (pa_cons (pv 2) (pa_cons (pv 1) pa_nil)))) (pg_name (i := 5) sc_first_marking.nd rfl (Or.inr rfl)) (pss_cons (ps_setLc (i := 6) (own := [("place", 7)]) rfl sc_first_marking.nd rfl rfl (sw_true rfl rfl rfl (by decide +kernel)) (k_piL K (pe_callB (call_sortedDI rfl) (by rfl) T.n_sorted (by decide +kernel) (pa_cons (pv 5) pa_nil))) (blkOk_by (N := ["expression", "word", "tables", "found", "allowed", "here", "good", "place"]) (sc := defScope s_first_marking) (own := [("place", 7)]) (by decide +kernel)) (fun _ _ _ _ _ => (pg_name (i := 7) sc_first_marking.nd rfl (Or.inl rfl))) (fun _ _ _ _ _ => (pts_one (PW.pt (pw_and (pt_cmpR op_gt (pe_dget (hu_of hr) (pv 5) (pv 7) (fun _ _ => rfl)) pe_int (nomark _)) (pw_and1 (pt_cmpR (k_in K) (pv 7) (pv 4) (by rfl))))))) (fun _ _ _ _ _ => (pv 7))) (pss_cons (ps_if (pt_not (k_truth K (pv 6) (by intro _; rfl))) (pss_one (ps_ret pe_non)) pss_nil) (pss_cons (ps_expr (k_bm K PySem.F.plainAttrs_list PySem.F.slot_list_append PySem.F.type_list_append mt_append (pv 3) (pa_cons (pe_ix (k_ixL K) (pv 6) pe_int (fun _ _ => rfl)) pa_nil))) (pss_one (ps_set (i := 4) sc_first_marking.nd rfl (Or.inr rfl) (pe_ix (k_ixT K) (pe_ix (k_ixT K) (pv 2) pe_int (fun _ _ => rfl)) (pe_ix (k_ixL K) (pv 6) pe_int (fun _ _ => rfl)) (fun _ _ => rfl)))))))) (pss_one (ps_ret (k_tuple K (by rfl) T.n_tuple (pv 3)))))))))), ?_⟩
  refine run_F h fun ds d pre => ?_
  obtain ⟨e, w, hd, ok, wok, one, rfl, rfl⟩ := pre
  have tok := tab_ok ok
  have wl := wok.1
  refine ds_seq (ds_drop (dn_call (Pre := pChkB) (da_cons (dn_var rfl) (da_cons (dn_var rfl) da_nil)) ⟨e, w, hd, ok, wok, rfl, rfl⟩)) ?_
  refine ds_seq (ds_set (dn_call (Pre := pTab) (da_cons (dn_var rfl) da_nil) ⟨e, hd, ok, rfl, rfl⟩)) ?_
  generalize tab e = t at tok one
  have weq : decide (Sx w = ("" : Str)) = w.isEmpty := by
    rw [empty_is]
    cases w with
    | nil => simp
    | cons a r => exact decide_eq_false fun z => nomatch (Sx_inj.mp z)
  have vw : ((st0 ["expression", "word", "tables", "found", "allowed", "here", "good", "place"] [enc e, .str (Sx w)]).set 2 (some (.d t.enc)))[1]? = some (some (.d (.str (Sx w)))) := rfl
  cases hw : w.isEmpty with
  | true =>
    refine ds_seqR (ds_ifT (dt_test ((dn_op (dn_var vw) dn_str rd_eqS).is (by rw [weq, hw]))) (ds_ret ?_))
    unfold fm
    rw [hw, if_pos rfl]
    refine dn_if (b := t.b) (dt_B (dn_t4 (t := t) (dn_var (i := 2) rfl))) (fun hb => ?_) (fun hb => ?_)
    · rw [if_pos hb]
      exact dn_tup da_nil (Nat.zero_le _)
    · rw [if_neg (by rw [hb]; exact Bool.false_ne_true)]
      exact dn_non
  | false =>
    refine ds_seq (ds_ifF (dt_test ((dn_op (dn_var vw) dn_str rd_eqS).is (by rw [weq, hw]))) ds_next) ?_
    have hfm : fm t w = if (lp (stepF t) ([], t.F) (cn t (rw t none w))).2 then dT (lp (stepF t) ([], t.F) (cn t (rw t none w))).1.1 else .none := by
      unfold fm
      rw [hw, if_neg Bool.false_ne_true]
    rw [hfm]
    have keys : ∀ h ∈ cn t (rw t none w), ROk t (h.map (·.1)) := fun h hh => by
      obtain ⟨r, hr, e⟩ := cn_keys hh
      rw [e]
      exact rw_ok tok one r hr
    have nl : (cn t (rw t none w)).length ≤ 24 := by rw [cn_len, rw_len]; exact wl
    generalize hcs : cn t (rw t none w) = cs at *
    refine do_own fun p => ?_
    refine do_seq (do_pure (ds_set (d := dT t.F) (dn_t1 (t := t) (dn_var (i := 2) rfl)))) ?_
    let I : List Int × List Int → Ev := fun s => [some (.d (enc e)), some (.d (.str (Sx w))), some (.d t.enc), some (.r (.ref p)), some (.d (dT s.2)), none, none, none]
    let X : List Int × List Int → List PyData := fun s => s.1.map .int
    show DenO p (I ([], t.F)) (X ([], t.F)) _ _
    have good : ∀ (s : List Int × List Int) (h : List (Int × Int)), h ∈ cs → DenS (tAsg (tLc (iList K (tCB _ (tCons (tVar 5) tNil))) (gName 7) (tAnd (tTest (tOp (rI0 fun i j => .bl (decide (j < i))) (tDGet (tVar 5) (tVar 7)) (tC (.int 0)))) (tTest (tOp (rIn K false) (tVar 7) (tVar 4)))) (tVar 7) [7]) (gName 6)) ((I s).set 5 (some (.d (dD h))))
        (.nx (((I s).set 5 (some (.d (dD h)))).set 6 (some (.d (dI ((srt (h.map (·.1))).filter (fun q => decide (0 < (getI h q).getD 0) && decide (q ∈ s.2)))))))) := fun s h hh => by
      have ro := keys h hh
      have rl := ro.len tok
      refine ds_set (dn_lc (srt (h.map (·.1))) .int _ .int (fun q => [some (.d (enc e)), some (.d (.str (Sx w))), some (.d t.enc), some (.r (.ref p)), some (.d (dT s.2)), some (.d (dD h)), none, some (.d (.int q))]) (di_list (dn_sortedD (l := h) (dn_var (i := 5) rfl) (by simpa using Nat.lt_of_le_of_lt rl (by decide)))) (fun q hq => dg_name) (fun q hq => ?_) (fun q hq _ => dn_var (i := 7) rfl) ?_)
      · have hk : q ∈ h.map (·.1) := (srt_perm _).mem_iff.mp hq
        obtain ⟨v, hv⟩ := getI_some hk
        refine dt_and (dt_test ((dn_op (dn_dget (dn_var (i := 5) rfl) (dn_var (i := 7) rfl) hv) dn_int rd_gt).is ?_)) fun _ => dt_test (dn_op (dn_var (i := 7) rfl) (dn_var (i := 4) rfl) rd_inI)
        rw [hv]
        rfl
      · rw [(srt_perm _).length_eq]
        omega
    refine do_forS (js := [5]) (a := dD) (es := cs) (stepF t) (fun i s => s.1.length ≤ i) I X (fun _ => .none) (di_list (dn_call (Pre := pCn) (da_cons (dn_var (i := 2) rfl) (da_cons (dn_var (i := 1) rfl) da_nil)) ⟨t, w, tok, one, wl, rfl, by rw [hcs]⟩)) (Nat.zero_le _) ?_ ?_ ?_ ?_ ?_
    · intro i s s' h hi hs hh hst
      unfold stepF at hst
      split at hst
      · cases hst
      · cases hst
        simp
        omega
    · intro i s s' h hi hs hh hst
      refine ⟨_, dg_name, ?_⟩
      refine do_seq (do_pure (good s h hh)) ?_
      unfold stepF at hst
      split at hst
      · cases hst
      · rename_i g gs hg
        cases hst
        have mem : g ∈ srt (h.map (·.1)) := (List.mem_filter.mp (by rw [hg]; simp)).1
        have bd := (keys h hh).2 g ((srt_perm _).mem_iff.mp mem)
        rw [hg]
        refine do_seq (do_if (c := false) ((dt_not (dk_truth (b := true) (dn_var (i := 6) rfl) rfl (fun s z => absurd z dI_ns))).is rfl) (fun z => nomatch z) fun _ => do_next) ?_
        have eX : X (s.1 ++ [g], t.go g) = X s ++ [.int g] := by
          show (s.1 ++ [g]).map _ = _
          rw [List.map_append]
          rfl
        rw [eX]
        have g0 : ∀ ρ : Ev, ρ[6]? = some (some (.d (dI (g :: gs)))) → Den (tOp (rIxL K) (tVar 6) (tC (.int 0))) ρ (.int g) := fun ρ h => dn_ixL (dn_var h) at0
        refine do_seq (do_app (j := 3) rfl (g0 _ rfl) ?_) ?_
        · show (s.1.map PyData.int).length < 100000
          rw [List.length_map]
          omega
        · refine do_le (do_pure (ds_set (d := dT (t.go g)) (dn_go (t := t) tok (dn_t3 (t := t) (dn_var (i := 2) rfl)) (g0 _ rfl) bd.1 bd.2))) ?_
          simp [LeE, I]
    · intro i s h hi hs hh hst
      refine ⟨_, dg_name, ?_⟩
      refine do_seq (do_pure (good s h hh)) ?_
      unfold stepF at hst
      split at hst
      · rename_i hg
        rw [hg]
        exact do_seqR (do_if (c := true) ((dt_not (dk_truth (b := false) (dn_var (i := 6) rfl) rfl (fun s z => absurd z dI_ns))).is rfl) (fun _ => do_ret dn_non fun M H v h => h.less fun b z => z.1) fun z => nomatch z)
      · cases hst
    · intro h1 h2
      rw [h1, if_pos rfl]
      exact do_freeze (j := 3) rfl (ds_ret (dn_tuple (dn_var (i := 3) rfl)))
    · intro h1
      rw [h1, if_neg Bool.false_ne_true]
/-- no two places with the same letter anywhere -/
def nocf (t : Tb) : Bool := (prs t t.F).isEmpty && t.W.all fun r => (prs t r).isEmpty
def pCf (ds : List PyData) (b : Bool) : Prop := ∃ t : Tb, TbOk t ∧ ds = [t.enc] ∧ b = nocf t
theorem prs_len {t : Tb} (ok : TbOk t) {F : List Int} (fo : ROk t F) : (prs t F).length ≤ 100 := by
  have hF := fo.len ok
  have : ∀ m : List Int, (m.flatMap fun a => (F.filter fun b => decide (a < b) && decide (t.at_ a = t.at_ b)).map fun b => (a, b)).length ≤ m.length * F.length := by
    intro m
    induction m with
    | nil => simp
    | cons a r ih =>
      have := List.length_filter_le (fun b => decide (a < b) && decide (t.at_ a = t.at_ b)) F
      rw [List.flatMap_cons, List.length_append, List.length_map, List.length_cons, Nat.add_mul]
      omega
  have h2 := Nat.mul_le_mul hF hF
  exact Nat.le_trans (this F) h2
theorem cl_conflicts_in (T : Tx K mg aR aS) : Cl P w K mg base 2 "conflicts_in" (SpE pCf) := by
  have c_pairs_in := cl_pairs_in (P := P) (w := w) (base := base) T
  refine mk_cl T.d_conflicts_in sc_conflicts_in bd_conflicts_in (len_E (by rintro ds d ⟨t, _, rfl, _⟩; rfl)) (fun f cdv A outer s H vs Q E hr h => ?_)
  refine ⟨_, (pss_cons (ps_set (i := 1) sc_conflicts_in.nd rfl (Or.inl rfl) (pe_cl c_pairs_in hr (by first | decide | omega) (by rfl) (pa_cons (pe_ix (k_ixT K) (pv 0) pe_int (fun _ _ => rfl)) (pa_cons (pe_ix (k_ixT K) (pv 0) pe_int (fun _ _ => rfl)) pa_nil)))) (pss_cons (ps_for PassesOwn.never rfl (k_piT K (pe_ix (k_ixT K) (pv 0) pe_int (fun _ _ => rfl))) (pg_name (i := 2) sc_conflicts_in.nd rfl (Or.inl rfl)) (pss_one (ps_set (i := 1) sc_conflicts_in.nd rfl (Or.inl rfl) (pe_op op_cat (pv 1) (pe_cl c_pairs_in hr (by first | decide | omega) (by rfl) (pa_cons (pe_ix (k_ixT K) (pv 0) pe_int (fun _ _ => rfl)) (pa_cons (pv 2) pa_nil))))))) (pss_one (ps_ret (pe_callB (call_sortedT rfl) (by rfl) T.n_sorted (by decide +kernel) (pa_cons (pe_dcT (own := [("pair", 3)]) (hu_of hr) rfl sc_conflicts_in.nd (k_piL K (pv 1)) (blkOk_by (N := ["tables", "found", "places", "pair"]) (sc := defScope s_conflicts_in) (own := [("pair", 3)]) (by decide +kernel)) (fun _ _ _ _ _ => (pg_name (i := 3) sc_conflicts_in.nd rfl (Or.inl rfl))) (fun _ _ _ _ _ => pts_nil) (fun _ _ _ _ _ => (pv 3)) (fun _ _ _ _ _ => pe_bl)) pa_nil)))))), ?_⟩
  refine run_E h fun ds d pre => ?_
  obtain ⟨t, ok, rfl, rfl⟩ := pre
  refine dse_seq (ds_set (d := dP (prs t t.F)) (dn_call (Pre := pPairs) (da_cons (dn_t0 (t := t) (dn_var (i := 0) rfl)) (da_cons (dn_t1 (t := t) (dn_var (i := 0) rfl)) da_nil)) ⟨t, t.F, ok, ok.f, rfl, rfl⟩)) ?_
  let L : Nat → List (Int × Int) := fun i => prs t t.F ++ (t.W.take i).flatMap (prs t)
  let I : Nat → Ev := fun i => [some (.d t.enc), some (.d (dP (L i))), none, none]
  have hL : ∀ i, i ≤ t.W.length → (L i).length ≤ 100 + 100 * i := fun i hi => by
    have h0 := prs_len ok ok.f
    have : ∀ m : List (List Int), (∀ r ∈ m, r ∈ t.W) → (m.flatMap (prs t)).length ≤ 100 * m.length := by
      intro m
      induction m with
      | nil => intro _; simp
      | cons a r ih =>
        intro hm
        have h1 := prs_len ok (ok.ws a (hm a (by simp)))
        have h2 := ih fun r hr => hm r (List.mem_cons_of_mem _ hr)
        rw [List.flatMap_cons, List.length_append, List.length_cons]
        omega
    have h1 := this (t.W.take i) fun r hr => List.mem_of_mem_take hr
    show (prs t t.F ++ (t.W.take i).flatMap (prs t)).length ≤ _
    rw [List.length_append]
    rw [List.length_take] at h1
    have : min i t.W.length = i := by omega
    rw [this] at h1
    omega
  have hW : t.W.length ≤ 10 := by rw [ok.w]; exact ok.n
  have e0 : [some (.d t.enc), some (.d (dP (prs t t.F))), none, none] = I 0 := by simp [I, L]
  refine dse_seq (ρ1 := I (t.W.map dT).length) ?_ ?_
  · refine (?_ : ∀ ρ, ρ = I 0 → DenS _ ρ _) _ e0
    rintro _ rfl
    refine ds_forX I (js := [2]) (di_tup (dn_t3 (t := t) (dn_var (i := 0) rfl))) fun i d hdi => ?_
    have hi : i < t.W.length := by
      have := (List.getElem?_eq_some_iff.mp hdi).1
      simpa using this
    have hg : t.W[i]? = some t.W[i] := List.getElem?_eq_getElem hi
    rw [List.getElem?_map, hg] at hdi
    obtain rfl := (Option.some.inj hdi).symm
    have ro : ROk t t.W[i] := ok.ws _ (List.getElem_mem hi)
    have hLi : L (i + 1) = L i ++ prs t t.W[i] := by
      show _ ++ (t.W.take (i + 1)).flatMap _ = _
      rw [take_succ_get hg, List.flatMap_append, ← List.append_assoc]
      simp [L]
    have hI : I (i + 1) = [some (.d t.enc), some (.d (dP (L i ++ prs t t.W[i]))), none, none] := by
      show [_, some (Sl.d (dP (L (i + 1)))), _, _] = _
      rw [hLi]
    refine ⟨(I i).set 2 (some (.d (dT t.W[i]))), dg_name, ?_⟩
    rw [hI]
    refine ds_le (ds_set (dn_catP (dn_var (i := 1) rfl) (dn_call (Pre := pPairs) (da_cons (dn_t0 (t := t) (dn_var (i := 0) rfl)) (da_cons (dn_var (i := 2) rfl) da_nil)) ⟨t, _, ok, ro, rfl, rfl⟩) ?_)) ?_
    · have h1 := hL i (by omega)
      have h2 := prs_len ok ro
      omega
    · simp [LeE, I]
  · have e1 : L (t.W.map dT).length = prs t t.F ++ t.W.flatMap (prs t) := by
      show _ ++ (t.W.take (t.W.map dT).length).flatMap _ = _
      rw [List.length_map, List.take_length]
    have e2 : nocf t = (L (t.W.map dT).length).isEmpty := by
      rw [e1]
      unfold nocf
      generalize prs t t.F = a
      cases a with
      | cons _ _ => rfl
      | nil =>
        rw [List.nil_append, List.isEmpty_nil, Bool.true_and]
        induction t.W with
        | nil => rfl
        | cons r rs ih =>
          rw [List.all_cons, List.flatMap_cons, ih]
          cases prs t r <;> rfl
    rw [e2]
    refine dse_ret (de_sortedDT (j := 3) (di_list (K := K) (dn_var (i := 1) rfl)) (by show 3 < 4; decide) ?_)
    have := hL (t.W.map dT).length (by rw [List.length_map]; omega)
    rw [List.length_map] at this
    rw [List.length_map]
    omega
end
end Nd
set_option Elab.async false
set_option linter.all false
set_option maxRecDepth 100000
set_option maxHeartbeats 4000000
namespace Nd
open PySem PySem.Spec PyProof.Rows L2
open Evl (Ex Ex.refl Ex.trans Ex.new)
abbrev s_places_read : Stmt := topS 35
theorem sc_places_read : FnScope ["expression", "word", "tables", "found", "behind", "letter", "here", "place"] ["expression", "word"] (defScope s_places_read) := ⟨rfl, rfl, rfl, by decide +kernel, rfl, by decide +kernel, by decide +kernel⟩
theorem bd_places_read (kV doc pm : Value) (an : Option Addr) (cdv ct : Value) (us : List Value) (hl : us.length = (["expression", "word"] : List Str).length) : bindArgs (PySem.W.fnOf "places_read" "places_read" (defArgs s_places_read) (defBody s_places_read) (defScope s_places_read) .none kV doc pm an cdv ct) ⟨us, []⟩ = pure ((["expression", "word"] : List Str).zip us) :=
  match us, hl with | [_, _], _ => rfl
abbrev s__law_told : Stmt := topS 56
theorem sc__law_told : FnScope ["_law_expression_here", "_law_word_here", "e"] ["_law_expression_here", "_law_word_here"] (defScope s__law_told) := ⟨rfl, rfl, rfl, by decide +kernel, rfl, by decide +kernel, by decide +kernel⟩
theorem bd__law_told (kV doc pm : Value) (an : Option Addr) (cdv ct : Value) (us : List Value) (hl : us.length = (["_law_expression_here", "_law_word_here"] : List Str).length) : bindArgs (PySem.W.fnOf "_law_told" "_law_told" (defArgs s__law_told) (defBody s__law_told) (defScope s__law_told) .none kV doc pm an cdv ct) ⟨us, []⟩ = pure ((["_law_expression_here", "_law_word_here"] : List Str).zip us) :=
  match us, hl with | [_, _], _ => rfl
/-! ### the error -/
abbrev iniS : Stmt := inClass (topS 3) 0
theorem sc_ini : FnScope ["self", "why"] ["self", "why"] (defScope iniS) := ⟨rfl, rfl, rfl, by decide +kernel, rfl, by decide +kernel, by decide +kernel⟩
structure Nx (K : PySem.W.Frag) (mg : Str → Option Value) (C fI : Addr) : Prop where
  oex : OexC K C
  gC : mg "NotPossible" = some (.ref C)
  iC : PySem.W.findIn K (.ref C) "__init__" = some (some (.ref fI))
  tI : PySem.W.typeIn K (.ref fI) = some (.type "function")
  ini : ∃ fd, FunD K "__init__" "NotPossible.__init__" (defArgs iniS) (defBody iniS) (defScope iniS) [] [] fI fd
  xf : XfC K C
  no : PySem.W.findIn K (.ref C) "why" = some none
  te : PySem.W.exmOne K (.ref C) (.ref C) = some true
def spI (C : Addr) : Sp := fun vs H Q _ => ∃ (a : Addr) (y : V), vs = [.ref a, y] ∧ H a = some (exo a C none) ∧ ∀ dx, H dx = none → dx ≠ a → Q .non (upd (upd H dx (exd dx [(("why" : Str), y)])) a (exo a C (some dx)))
/-- a def that may raise -/
structure ClX (P : Program) (w : World) (K : PySem.W.Frag) (mg : Str → Option Value) (base : Heap) (k : Nat) (x : Str) (sp : Sp) : Prop where
  ex : ∃ (f : Addr) (fd : FuncData) (ps : List Str), FnOk P w K mg base (L2.CX P w) k f fd ps sp ∧ mg x = some (.ref f) ∧ PySem.W.keepIn K (.ref f) = true ∧ Binds K fd ps []
section
variable {P : Program} {w : World} {K : PySem.W.Frag} {mg : Str → Option Value} {base : Heap} {aR aS C fI : Addr}
theorem mk_clX {x : Str} {st : Stmt} {N ps : List Str} {k : Nat} {sp : Sp} (D : Df K mg x st) (S : FnScope N ps (defScope st))
    (hb : ∀ (kV doc pm : Value) (an : Option Addr) (cdv ct : Value) (us : List Value), us.length = ps.length → bindArgs (PySem.W.fnOf x x (defArgs st) (defBody st) (defScope st) .none kV doc pm an cdv ct) ⟨us, []⟩ = pure (ps.zip us))
    (len : ∀ vs H Q E, sp vs H Q E → vs.length = ps.length)
    (hbody : ∀ (f : Addr) (cdv : Value) (A : Around) (outer : List Env) (s : Shared) (H : Hp) (vs : List V) (Q : VK) (E : XK), Room k (A.deeper (envOfC x (defScope st) s.heap.objs.size f cdv)) → sp vs H Q E →
      ∃ t, PSs (cxOf (L2.CX P w) P w K mg base N x (defScope st) f cdv A outer s H E) (defBody st) t ∧ t { nx := fun _ H' => Q .non H', rt := Q } (L2.start N vs) H) : ClX P w K mg base (k + 1) x sp := by
  obtain ⟨f, fd, F, m⟩ := D.ex
  refine ⟨f, fd, ps, F.ok S len (fun cdv A outer s H vs Q E hr h => ?_), m, F.kp, F.bindsN hb⟩
  obtain ⟨t, h1, h2⟩ := hbody f cdv A outer s H vs Q E hr h
  exact ⟨t, h1, h2⟩
theorem ok_ini (N : Nx K mg C fI) : ∃ fd, FnOk P w K mg base L2.CX0 1 fI fd ["self", "why"] (spI C) ∧ Binds K fd ["self", "why"] [] := by
  obtain ⟨fd, F⟩ := N.ini
  refine ⟨fd, F.ok sc_ini (fun vs H Q E h => ?_) (fun cdv A outer s H vs Q E hr h => ⟨_, PSs.nox (pss_one (ps_ost (pv 0) (pv 1))), ?_⟩), F.bindsN fun kV doc pm an cdv ct us hl => match us, hl with | [_, _], _ => rfl⟩
  · obtain ⟨a, y, rfl, _⟩ := h
    rfl
  · obtain ⟨a, y, rfl, ha, q⟩ := h
    exact ⟨_, rfl, _, rfl, a, C, rfl, N.oex, N.no, .inl ⟨ha, fun dx h1 h2 => q dx h1 h2⟩⟩
end
/-! ### a way out by the error -/
def fsW : List (Str × V) := [(("why" : Str), .str ("doubt" : Str))]
def DenW (C : Addr) (E : XK) (t : TS) (ρ : Ev) : Prop := ∀ M σ H, Mok M H → EnvR M H σ ρ → ∀ Dn : Ends, (∀ H2 d, Ex H H2 → H2 d = some (.xd fsW) → E (.ref C) (some d) H2) → t Dn σ H
section
variable {C : Addr} {E : XK} {K : PySem.W.Frag} {ρ ρ1 : Ev} {t u : TS} {tt : TT}
theorem dw_seq (h1 : DenS t ρ (.nx ρ1)) (h2 : DenW C E u ρ1) : DenW C E (tSeq t u) ρ := fun M σ H m e Dn q =>
  h1 M σ H m e _ fun σ1 H1 e1 r1 => h2 M σ1 H1 (m.ex e1) r1 Dn fun H2 d e2 x => q H2 d (e1.trans e2) x
theorem dw_seqW (h1 : DenW C E t ρ) : DenW C E (tSeq t u) ρ := fun M σ H m e Dn q => h1 M σ H m e _ q
theorem dw_if {a b : TS} (h : DenT tt ρ true) (h1 : DenW C E a ρ) : DenW C E (tIfS tt a b) ρ := fun M σ H m e Dn q =>
  h M σ H m e _ fun H1 e1 => iteT (h1 M σ H1 (m.ex e1) (e.ex e1) Dn fun H2 d e2 x => q H2 d (e1.trans e2) x)
theorem dw_raise : DenW C E (fun _ σ H => tMkO C (spI C) [] (tCons (tC (.str ("doubt" : Str))) tNil) σ H fun cls d H' => E cls d H') ρ := fun M σ H m e Dn q => by
  refine ⟨by decide, fun a ha => ⟨a, _, rfl, upd_same, fun dx h1 h2 => ⟨rfl, dx, fsW, upd_same, ?_, ?_, ?_⟩⟩⟩
  · rw [upd_ne h2, upd_same]
    rfl
  · rw [upd_ne h2] at h1
    exact h1
  · rw [upd_ne h2] at h1
    refine q _ dx (fun b o hb => ?_) upd_same
    have n1 : b ≠ dx := ne_of_none hb h1
    have n2 : b ≠ a := ne_of_none hb ha
    rw [upd_ne n1, del_ne n2, upd_ne n2, upd_ne n1, upd_ne n2]
    exact hb
end
/-! ### the places read -/
def rdw (t : Tb) : List Int → List Nat → List Int
  | _, [] => []
  | bh, c :: w => match bh.filter fun p => decide (t.at_ p = c) with
    | [] => []
    | g :: _ => g :: rdw t (t.go g) w
def stepR (t : Tb) (s : List Int × List Int) (c : Nat) : Option (List Int × List Int) := match s.2.filter fun p => decide (t.at_ p = c) with
  | [] => none
  | g :: _ => some (s.1 ++ [g], t.go g)
theorem lp_rd (t : Tb) : ∀ (w : List Nat) (f bh : List Int), (lp (stepR t) (f, bh) w).1.1 = f ++ rdw t bh w
  | [], f, bh => by simp [lp, rdw]
  | c :: w, f, bh => by
    rw [lp, rdw]
    unfold stepR
    cases h : bh.filter fun p => decide (t.at_ p = c) with
    | nil => simp only [h, List.append_nil]
    | cons g gs =>
      simp only [h]
      have := lp_rd t w (f ++ [g]) (t.go g)
      unfold stepR at this
      rw [this, List.append_assoc]
      rfl
section
variable {P : Program} {w : World} {K : PySem.W.Frag} {mg : Str → Option Value} {base : Heap} {aR aS C fI : Addr}
def spPR (C : Addr) : Sp := fun vs H Q E => ∃ M ds, Mok M H ∧ DtL M H vs ds ∧ ∃ (e : Xp) (w : List Nat), dp e < 40 ∧ Ok e ∧ WOk w ∧ ds = [enc e, .str (Sx w)] ∧
  (nocf (tab e) = true → ∀ v H2, Ex H H2 → Dt M H2 v (dT (rdw (tab e) (tab e).F w)) → Q v H2) ∧ (nocf (tab e) = false → ∀ H2 d, Ex H H2 → H2 d = some (.xd fsW) → E (.ref C) (some d) H2)
theorem cl_places_read (T : Tx K mg aR aS) (N : Nx K mg C fI) : ClX P w K mg base 46 "places_read" (spPR C) := by
  have c_check_long := cl_check_long (P := P) (w := w) (base := base) T
  have c_check_word := cl_check_word (P := P) (w := w) (base := base) T
  have c_tables_of := cl_tables_of (P := P) (w := w) (base := base) T
  have c_conflicts_in := cl_conflicts_in (P := P) (w := w) (base := base) T
  obtain ⟨fdI, okI, bI⟩ := ok_ini (P := P) (w := w) (base := base) N
  refine mk_clX T.d_places_read sc_places_read bd_places_read (by rintro vs H Q E ⟨M, ds, _, r, e, w, _, _, _, rfl, _⟩; rw [r.length]; rfl) (fun f cdv A outer s H vs Q E hr h => ?_)
  refine ⟨_, (pss_cons (ps_expr (pe_cl c_check_long hr (by first | decide | omega) (by rfl) (pa_cons (pv 0) pa_nil))) (pss_cons (ps_expr (pe_cl c_check_word hr (by first | decide | omega) (by rfl) (pa_cons (pv 1) pa_nil))) (pss_cons (ps_set (i := 2) sc_places_read.nd rfl (Or.inr rfl) (pe_cl c_tables_of hr (by first | decide | omega) (by rfl) (pa_cons (pv 0) pa_nil))) (pss_cons (ps_if (k_truth K (pe_cl c_conflicts_in hr (by decide) (by rfl) (pa_cons (pv 2) pa_nil)) (by intro _; rfl)) (pss_one (ps_raise rfl (takes_of rfl rfl rfl rfl) (by exact (pmk_oex N.oex N.iC N.tI okI (hr.mono (by decide)) bI .nil pass0 rfl N.gC (pa_cons pe_str pa_nil))))) pss_nil) (PSs.nox (pss_cons (ps_set (i := 3) sc_places_read.nd rfl (Or.inl rfl) (pe_lst pa_nil)) (pss_cons (ps_set (i := 4) sc_places_read.nd rfl (Or.inl rfl) (pe_ix (k_ixT K) (pv 2) pe_int (fun _ _ => rfl))) (pss_cons (ps_for PassesOwn.never rfl (pi_str (pv 1)) (pg_name (i := 5) sc_places_read.nd rfl (Or.inr rfl)) (pss_cons (ps_setLc (i := 6) (own := [("place", 7)]) rfl sc_places_read.nd rfl rfl (sw_true rfl rfl rfl (by decide +kernel)) (k_piT K (pv 4)) (blkOk_by (N := ["expression", "word", "tables", "found", "behind", "letter", "here", "place"]) (sc := defScope s_places_read) (own := [("place", 7)]) (by decide +kernel)) (fun _ _ _ _ _ => (pg_name (i := 7) sc_places_read.nd rfl (Or.inl rfl))) (fun _ _ _ _ _ => (pts_one (pt_cmpR op_eq (pe_ix ix_str (pe_ix (k_ixT K) (pv 2) pe_int (fun _ _ => rfl)) (pv 7) (fun _ _ => rfl)) (pv 5) (nomark _)))) (fun _ _ _ _ _ => (pv 7))) (pss_cons (ps_if (pt_not (k_truth K (pv 6) (by intro _; rfl))) (pss_one (ps_ret (k_tuple K (by rfl) T.n_tuple (pv 3)))) pss_nil) (pss_cons (ps_expr (k_bm K PySem.F.plainAttrs_list PySem.F.slot_list_append PySem.F.type_list_append mt_append (pv 3) (pa_cons (pe_ix (k_ixL K) (pv 6) pe_int (fun _ _ => rfl)) pa_nil))) (pss_one (ps_set (i := 4) sc_places_read.nd rfl (Or.inl rfl) (pe_ix (k_ixT K) (pe_ix (k_ixT K) (pv 2) pe_int (fun _ _ => rfl)) (pe_ix (k_ixL K) (pv 6) pe_int (fun _ _ => rfl)) (fun _ _ => rfl)))))))) (pss_one (ps_ret (k_tuple K (by rfl) T.n_tuple (pv 3)))))))))))), ?_⟩
  obtain ⟨M, ds, m, r, e, w, hd, ok, wok, rfl, q1, q2⟩ := h
  have tok := tab_ok ok
  have wl := wok.1
  have s1 := ds_drop (dn_call (E := E0) (Pre := pChkL) (da_cons (dn_var (ρ := st0 ["expression", "word", "tables", "found", "behind", "letter", "here", "place"] [enc e, .str (Sx w)]) (i := 0) rfl) da_nil) ⟨e, hd, ok, rfl, rfl⟩)
  have s2 := ds_drop (dn_call (E := E0) (Pre := pChkW) (da_cons (dn_var (ρ := st0 ["expression", "word", "tables", "found", "behind", "letter", "here", "place"] [enc e, .str (Sx w)]) (i := 1) rfl) da_nil) ⟨w, wok, rfl, rfl⟩)
  have s3 := ds_set (j := 2) (dn_call (E := E0) (Pre := pTab) (da_cons (dn_var (ρ := st0 ["expression", "word", "tables", "found", "behind", "letter", "here", "place"] [enc e, .str (Sx w)]) (i := 0) rfl) da_nil) ⟨e, hd, ok, rfl, rfl⟩)
  generalize ht : tab e = t at *
  have tst : ∀ b, nocf t = b → DenT (tTruth K (tCall (SpE pCf) [] E0 (tCons (tVar 2) tNil))) ((st0 ["expression", "word", "tables", "found", "behind", "letter", "here", "place"] [enc e, .str (Sx w)]).set 2 (some (.d t.enc))) (!b) := fun b hb => de_truth (de_call (Pre := pCf) (da_cons (dn_var (i := 2) rfl) da_nil) ⟨t, tok, rfl, hb.symm⟩)
  cases hc : nocf t with
  | false => exact dw_seq s1 (dw_seq s2 (dw_seq s3 (dw_seqW (dw_if (tst _ hc) dw_raise)))) M _ H m (env0 r) _ (q2 hc)
  | true =>
    refine ds_seq s1 (ds_seq s2 (ds_seq s3 (ds_seq (ds_ifF (tst _ hc) ds_next) ?_))) M _ H m (env0 r) _ (o := .rt (dT (rdw t t.F w))) (q1 hc)
    refine do_own fun p => ?_
    refine do_seq (do_pure (ds_set (d := dT t.F) (dn_t1 (t := t) (dn_var (i := 2) rfl)))) ?_
    let I : List Int × List Int → Ev := fun s => [some (.d (enc e)), some (.d (.str (Sx w))), some (.d t.enc), some (.r (.ref p)), some (.d (dT s.2)), none, none, none]
    let X : List Int × List Int → List PyData := fun s => s.1.map .int
    show DenO p (I ([], t.F)) (X ([], t.F)) _ _
    have good : ∀ (s : List Int × List Int) (c : Nat), ROk t s.2 → DenS (tAsg (tLc (iTup K (tVar 4)) (gName 7) (tTest (tOp rEq (tOp rIxS (tOp (rIxT K) (tVar 2) (tC (.int 0))) (tVar 7)) (tVar 5))) (tVar 7) [7]) (gName 6)) ((I s).set 5 (some (.d (.str (Sx [c])))))
        (.nx (((I s).set 5 (some (.d (.str (Sx [c]))))).set 6 (some (.d (dI (s.2.filter fun p => decide (t.at_ p = c))))))) := fun s c ro => by
      have rl := ro.len tok
      exact ds_set (dn_lc s.2 .int _ .int (fun q => [some (.d (enc e)), some (.d (.str (Sx w))), some (.d t.enc), some (.r (.ref p)), some (.d (dT s.2)), some (.d (.str (Sx [c]))), none, some (.d (.int q))]) (di_tup (dn_var (i := 4) rfl)) (fun q hq => dg_name)
        (fun q hq => dt_test (dn_op (dn_let tok (dn_t0 (t := t) (dn_var (i := 2) rfl)) (dn_var (i := 7) rfl) (ro.2 q hq).1 (ro.2 q hq).2) (dn_var (i := 5) rfl) rd_eqL)) (fun q hq _ => dn_var (i := 7) rfl) (by omega))
    refine do_forS (js := [5]) (a := fun c => .str (Sx [c])) (es := w) (stepR t) (fun i s => s.1.length ≤ i ∧ ROk t s.2) I X (fun s => dT s.1) (by rw [← sgn_Sx]; exact di_str (dn_var (i := 1) rfl)) ⟨Nat.zero_le _, tok.f⟩ ?_ ?_ ?_ ?_ ?_
    · intro i s s' c hi hs hh hst
      unfold stepR at hst
      split at hst
      · cases hst
      · rename_i g gs hg
        cases hst
        have mem : g ∈ s.2 := (List.mem_filter.mp (by rw [hg]; simp)).1
        have bd := hs.2.2 g mem
        refine ⟨?_, tok.ws _ (go_mem tok bd.1 bd.2)⟩
        have := hs.1
        simp
        omega
    · intro i s s' c hi hs hh hst
      refine ⟨_, dg_name, ?_⟩
      refine do_seq (do_pure (good s c hs.2)) ?_
      unfold stepR at hst
      split at hst
      · cases hst
      · rename_i g gs hg
        cases hst
        have mem : g ∈ s.2 := (List.mem_filter.mp (by rw [hg]; simp)).1
        have bd := hs.2.2 g mem
        rw [hg]
        refine do_seq (do_if (c := false) ((dt_not (dk_truth (b := true) (dn_var (i := 6) rfl) rfl (fun s z => absurd z dI_ns))).is rfl) (fun z => nomatch z) fun _ => do_next) ?_
        have eX : X (s.1 ++ [g], t.go g) = X s ++ [.int g] := by
          show (s.1 ++ [g]).map _ = _
          rw [List.map_append]
          rfl
        rw [eX]
        have g0 : ∀ ρ : Ev, ρ[6]? = some (some (.d (dI (g :: gs)))) → Den (tOp (rIxL K) (tVar 6) (tC (.int 0))) ρ (.int g) := fun ρ h => dn_ixL (dn_var h) at0
        refine do_seq (do_app (j := 3) rfl (g0 _ rfl) ?_) ?_
        · show (s.1.map PyData.int).length < 100000
          rw [List.length_map]
          have := hs.1
          omega
        · refine do_le (do_pure (ds_set (d := dT (t.go g)) (dn_go (t := t) tok (dn_t3 (t := t) (dn_var (i := 2) rfl)) (g0 _ rfl) bd.1 bd.2))) ?_
          simp [LeE, I]
    · intro i s c hi hs hh hst
      refine ⟨_, dg_name, ?_⟩
      refine do_seq (do_pure (good s c hs.2)) ?_
      unfold stepR at hst
      split at hst
      · rename_i hg
        rw [hg]
        exact do_seqR (do_if (c := true) ((dt_not (dk_truth (b := false) (dn_var (i := 6) rfl) rfl (fun s z => absurd z dI_ns))).is rfl) (fun _ => do_freeze (j := 3) rfl (ds_ret (dn_tuple (dn_var (i := 3) rfl)))) fun z => nomatch z)
      · cases hst
    · intro h1 h2
      have := lp_rd t w [] t.F
      rw [List.nil_append] at this
      rw [← this]
      exact do_freeze (j := 3) rfl (ds_ret (dn_tuple (dn_var (i := 3) rfl)))
    · intro h1
      show dT _ = _
      rw [lp_rd t w [] t.F, List.nil_append]
end
end Nd
set_option Elab.async false
set_option linter.all false
set_option maxRecDepth 100000
set_option maxHeartbeats 4000000
namespace Nd
open PySem PySem.Spec PyProof.Rows L2
open Evl (Ex Ex.refl Ex.trans Ex.new)
abbrev s__law_next : Stmt := topS 38
theorem sc__law_next : FnScope ["_law_stream_here", "_law_many", "_law_digit", "_law_k", "_law_cell"] ["_law_stream_here", "_law_many"] (defScope s__law_next) := ⟨rfl, rfl, rfl, by decide +kernel, rfl, by decide +kernel, by decide +kernel⟩
theorem bd__law_next (kV doc pm : Value) (an : Option Addr) (cdv ct : Value) (us : List Value) (hl : us.length = (["_law_stream_here", "_law_many"] : List Str).length) : bindArgs (PySem.W.fnOf "_law_next" "_law_next" (defArgs s__law_next) (defBody s__law_next) (defScope s__law_next) .none kV doc pm an cdv ct) ⟨us, []⟩ = pure ((["_law_stream_here", "_law_many"] : List Str).zip us) :=
  match us, hl with | [_, _], _ => rfl
section
variable {P : Program} {w : World} {K : PySem.W.Frag} {mg : Str → Option Value} {base : Heap} {aR aS C fI : Addr}
/-! ### told -/
def pTold (ds : List PyData) (d : PyData) : Prop := ∃ (e : Xp) (w : List Nat), dp e < 40 ∧ Ok e ∧ WOk w ∧ ds = [enc e, .str (Sx w)] ∧ d = if nocf (tab e) then dT (rdw (tab e) (tab e).F w) else .list [.str ("not" : Str), .str ("doubt" : Str)]
theorem cl__law_told (T : Tx K mg aR aS) (N : Nx K mg C fI) : Cl P w K mg base 47 "_law_told" (SpF pTold) := by
  obtain ⟨fP, fdP, psP, okP, gP, kP, bP⟩ := (cl_places_read (P := P) (w := w) (base := base) T N).ex
  refine mk_cl T.d__law_told sc__law_told bd__law_told (len_F (by rintro ds d ⟨e, w, _, _, _, rfl, _⟩; rfl)) (fun f cdv A outer s H vs Q E hr h => ?_)
  refine ⟨_, pss_one (ps_try_as (i := 2) (tb := fun W => tRet (tCallS (spPR C) (WE W) (tCons (tVar 0) (tCons (tVar 1) tNil)))) (ts := fun a cls d => tRet (tLst (tCons (tC (.str ("not" : Str))) (tCons (tXf a cls d C ("why" : Str) (tVar 2)) tNil)))) (Wout := fun _ _ _ _ => False) rfl rfl sc__law_told.nd rfl rfl ⟨rfl, by decide, Or.inl N.gC⟩ takes0
    (fun W pn xe tk _ => pss_one (ps_ret (by exact (pe_callS okP (hr.mono (by decide)) rfl gP kP bP (fun σ => passAt tk σ) (by exact (pa_cons (pv 0) (pa_cons (pv 1) pa_nil)))))))
    (fun a oe cls d pn hz hf => pss_one (ps_ret (by exact (pe_lst (pa_cons pe_str (pa_cons (pe_xf N.xf N.no hz hf (pv 2)) pa_nil))))))), ?_⟩
  obtain ⟨M, ds, d, m, r, ⟨e, w, hd, ok, wok, rfl, rfl⟩, q⟩ := h
  have e0 := env0 (N := ["_law_expression_here", "_law_word_here", "e"]) r
  obtain ⟨o0, h0, v0, rfl, d0⟩ := e0.at_ 0 (.d (enc e)) rfl
  obtain ⟨o1, h1, v1, rfl, d1⟩ := e0.at_ 1 (.d (.str (Sx w))) rfl
  refine ⟨v0, h0, v1, h1, M, _, m, .cons d0 (.cons d1 .nil), e, w, hd, ok, wok, rfl, fun hc v H2 e2 dv => ?_, fun hc H2 dd e2 hx => ?_⟩
  · rw [hc, if_pos rfl] at q
    exact q v H2 e2 dv
  · rw [hc, if_neg Bool.false_ne_true] at q
    refine ⟨true, N.te, fun _ a ha => ?_, fun z => nomatch z⟩
    have h2 : ((L2.start ["_law_expression_here", "_law_word_here", "e"] vs).set 2 (some (.ref a)))[2]? = some (some (.ref a)) := List.getElem?_set_self (by rw [e0.len]; simp [st0])
    refine ⟨_, h2, rfl, rfl, dd, fsW, .str ("doubt" : Str), rfl, hx, rfl, Evl.sz_of (by show 2 ≤ 100000; decide), fun p hp => ?_⟩
    exact q _ _ (e2.trans (Ex.new hp)) (.lst ((m.ex e2).new hp) upd_same (.cons (.str _) (.cons (.str _) .nil)))
/-! ### the stream -/
def gS (S : Int → Prop) (d : PyData) : Prop := ∃ g, d = .int g ∧ S g
def pNx (ds : List PyData) (S : PyData → Prop) : Prop := ∃ many : Int, 0 < many ∧ many < 1073741824 ∧ ds = [.int many] ∧ S = gS fun g => 0 ≤ g ∧ g < many
def M0 : Mt := fun _ => False
def StN (a l : Addr) (xs : List Int) (c : Int) (k : Nat) (H : Hp) : Prop := l ≠ a ∧ H a = some (.lst [.ref l, .int c, .int k]) ∧ H l = some (.lst (xs.map V.int))
def evN (xs : List Int) (c : Int) (k : Nat) (ρ : List (Option Int)) : Ev := some (.d (.list [.list (xs.map .int), .int c, .int k])) :: ρ.map fun o => o.map fun i => .d (.int i)
structure AtN (a l : Addr) (xs : List Int) (c : Int) (k : Nat) (ρ : List (Option Int)) (σ : L2.St) (H : Hp) : Prop where
  st : StN a l xs c k H
  env : EnvR M0 H σ (evN xs c k ρ)
  at0 : σ[0]? = some (some (.ref a))
theorem m0ok {H : Hp} : Mok M0 H := fun b h => h.elim
theorem StN.ex {a l : Addr} {xs : List Int} {c : Int} {k : Nat} {H H' : Hp} (h : StN a l xs c k H) (e : Ex H H') : StN a l xs c k H' := by
  obtain ⟨h1, h2, h3⟩ := h
  exact ⟨h1, e _ _ h2, e _ _ h3⟩
def DnN (a l : Addr) (xs : List Int) (t : TS) (c : Int) (k : Nat) (ρ : List (Option Int)) (G : Int → Nat → List (Option Int) → Prop) : Prop := ∀ σ H, AtN a l xs c k ρ σ H → ∀ Dn : Ends, (∀ c' k' ρ' σ' H', G c' k' ρ' → Xq a H H' → AtN a l xs c' k' ρ' σ' H' → Dn.nx σ' H') → t Dn σ H
theorem evN_set (xs : List Int) (c : Int) (k : Nat) (ρ : List (Option Int)) (j : Nat) (i : Int) : (evN xs c k ρ).set (j + 1) (some (.d (.int i))) = evN xs c k (ρ.set j (some i)) := by
  unfold evN
  rw [List.set_cons_succ, List.map_set]
  rfl
section
variable {a l : Addr} {xs : List Int} {c : Int} {k : Nat} {ρ : List (Option Int)} {t u : TS} {te : TE} {tt : TT} {G G2 : Int → Nat → List (Option Int) → Prop}
theorem nn_seq (h1 : DnN a l xs t c k ρ G) (h2 : ∀ c' k' ρ', G c' k' ρ' → DnN a l xs u c' k' ρ' G2) : DnN a l xs (tSeq t u) c k ρ G2 := fun σ H h Dn q =>
  h1 σ H h _ fun c' k' ρ' σ' H' g x h' => h2 c' k' ρ' g σ' H' h' Dn fun c2 k2 ρ2 σ2 H2 g2 x2 h2 => q c2 k2 ρ2 σ2 H2 g2 (x.trans x2) h2
theorem nn_set {j : Nat} {i : Int} (h : Den te (evN xs c k ρ) (.int i)) : DnN a l xs (tAsg te (gName (j + 1))) c k ρ (fun c' k' ρ' => c' = c ∧ k' = k ∧ ρ' = ρ.set j (some i)) := fun σ H hh Dn q =>
  h M0 σ H m0ok hh.env _ fun v H1 e1 d1 => q c k _ _ H1 ⟨rfl, rfl, rfl⟩ (.of e1) ⟨hh.st.ex e1, by rw [← evN_set]; exact (hh.env.ex e1).set (s := .d (.int i)) (j + 1) ⟨v, rfl, d1⟩, by
    rw [List.getElem?_set_ne (by omega)]; exact hh.at0⟩
theorem nn_if {t1 t2 : TS} {b : Bool} (h : DenT tt (evN xs c k ρ) b) (h1 : b = true → DnN a l xs t1 c k ρ G) (h2 : b = false → DnN a l xs t2 c k ρ G) : DnN a l xs (tIfS tt t1 t2) c k ρ G := fun σ H hh Dn q =>
  h M0 σ H m0ok hh.env _ fun H1 e1 => by
    have hh' : AtN a l xs c k ρ σ H1 := ⟨hh.st.ex e1, hh.env.ex e1, hh.at0⟩
    cases b with
    | true => exact iteT (h1 rfl σ H1 hh' Dn fun c' k' ρ' σ' H' g x => q c' k' ρ' σ' H' g ((Xq.of e1).trans x))
    | false => exact iteF (h2 rfl σ H1 hh' Dn fun c' k' ρ' σ' H' g x => q c' k' ρ' σ' H' g ((Xq.of e1).trans x))
theorem nn_next : DnN a l xs tNext c k ρ (fun c' k' ρ' => c' = c ∧ k' = k ∧ ρ' = ρ) := fun σ H hh Dn q => q c k ρ σ H ⟨rfl, rfl, rfl⟩ .refl hh
theorem nn_imp (h : DnN a l xs t c k ρ G) (i : ∀ c' k' ρ', G c' k' ρ' → G2 c' k' ρ') : DnN a l xs t c k ρ G2 := fun σ H hh Dn q => h σ H hh Dn fun c' k' ρ' σ' H' g => q c' k' ρ' σ' H' (i c' k' ρ' g)
/-- the store of a cell, of a place -/
theorem AtN.put {σ : L2.St} {H : Hp} {c' : Int} {k' : Nat} (h : AtN a l xs c k ρ σ H) (hl : l ≠ a) (hx : H l = some (.lst (xs.map V.int))) : AtN a l xs c' k' ρ σ (upd H a (.lst [.ref l, .int c', .int k'])) := by
  have st : StN a l xs c' k' (upd H a (.lst [.ref l, .int c', .int k'])) := ⟨hl, upd_same, by rw [upd_ne hl]; exact hx⟩
  refine ⟨st, ⟨by have := h.env.len; simpa [evN] using this, fun i s q => ?_⟩, h.at0⟩
  cases i with
  | zero =>
    cases q
    exact ⟨_, h.at0, _, rfl, .lst (fun z => z) upd_same (.cons (.lst (fun z => z) (by rw [upd_ne hl]; exact hx) (.of_ints xs)) (.cons (.int _) (.cons (.int _) .nil)))⟩
  | succ i =>
    have q' : (evN xs c k ρ)[i + 1]? = some (some s) := q
    obtain ⟨o, ho, hr⟩ := h.env.at_ (i + 1) s q'
    refine ⟨o, ho, ?_⟩
    have q2 : (ρ.map fun o => o.map fun i => Sl.d (.int i))[i]? = some (some s) := q
    rw [List.getElem?_map] at q2
    cases e : ρ[i]? with
    | none => rw [e] at q2; cases q2
    | some o2 =>
      cases o2 with
      | none => rw [e] at q2; cases q2
      | some i =>
        rw [e] at q2
        cases q2
        obtain ⟨v, hv, dv⟩ := hr
        cases dv
        exact ⟨_, hv, .int _⟩
theorem xq_put {H : Hp} {o : HO} : Xq a H (upd H a o) := Xq.upd .refl
theorem nn_put1 {i : Int} (h : Den te (evN xs c k ρ) (.int i)) : DnN a l xs (tAsg te (gSub (tVar 0) (tC (.int 1)) rSetL)) c k ρ (fun c' k' ρ' => c' = i ∧ k' = k ∧ ρ' = ρ) := fun σ H hh Dn q =>
  h M0 σ H m0ok hh.env _ fun v H1 e1 d1 => by
    cases d1
    have hh' : AtN a l xs c k ρ σ H1 := ⟨hh.st.ex e1, hh.env.ex e1, hh.at0⟩
    obtain ⟨hl, ha, hx⟩ := hh'.st
    refine ⟨_, hh.at0, a, _, 1, 1, rfl, rfl, ha, rfl, ?_⟩
    exact q i k ρ σ _ ⟨rfl, rfl, rfl⟩ ((Xq.of e1).trans xq_put) (hh'.put hl hx)
theorem nn_put2 {i : Nat} (h : Den te (evN xs c k ρ) (.int i)) : DnN a l xs (tAsg te (gSub (tVar 0) (tC (.int 2)) rSetL)) c k ρ (fun c' k' ρ' => c' = c ∧ k' = i ∧ ρ' = ρ) := fun σ H hh Dn q =>
  h M0 σ H m0ok hh.env _ fun v H1 e1 d1 => by
    cases d1
    have hh' : AtN a l xs c k ρ σ H1 := ⟨hh.st.ex e1, hh.env.ex e1, hh.at0⟩
    obtain ⟨hl, ha, hx⟩ := hh'.st
    refine ⟨_, hh.at0, a, _, 2, 2, rfl, rfl, ha, rfl, ?_⟩
    exact q c i ρ σ _ ⟨rfl, rfl, rfl⟩ ((Xq.of e1).trans xq_put) (hh'.put hl hx)
end
def DnR (a l : Addr) (xs : List Int) (t : TS) (c : Int) (k : Nat) (ρ : List (Option Int)) (R : Int → Prop) : Prop := ∀ σ H, AtN a l xs c k ρ σ H → ∀ Dn : Ends, (∀ g c' k' H', R g → Xq a H H' → StN a l xs c' k' H' → Dn.rt (.int g) H') → t Dn σ H
theorem nr_seq {a l : Addr} {xs : List Int} {c : Int} {k : Nat} {ρ : List (Option Int)} {t u : TS} {G : Int → Nat → List (Option Int) → Prop} {R : Int → Prop} (h1 : DnN a l xs t c k ρ G) (h2 : ∀ c' k' ρ', G c' k' ρ' → DnR a l xs u c' k' ρ' R) : DnR a l xs (tSeq t u) c k ρ R := fun σ H h Dn q =>
  h1 σ H h _ fun c' k' ρ' σ' H' g x h' => h2 c' k' ρ' g σ' H' h' Dn fun g c2 k2 H2 hg x2 s2 => q g c2 k2 H2 hg (x.trans x2) s2
theorem nr_ret {a l : Addr} {xs : List Int} {c : Int} {k : Nat} {ρ : List (Option Int)} {te : TE} {g : Int} {R : Int → Prop} (h : Den te (evN xs c k ρ) (.int g)) (hg : R g) : DnR a l xs (tRet te) c k ρ R := fun σ H hh Dn q =>
  h M0 σ H m0ok hh.env _ fun v H1 e1 d1 => by
    cases d1
    exact q g c k H1 hg (.of e1) (hh.st.ex e1)
theorem rc_abs {i : Int} : RCD (fun xs H Q => ∃ i, xs = [.int i] ∧ Q (.int (if i < 0 then -i else i)) H) [.int i] (.int (if i < 0 then -i else i)) := fun M H vs m a Q q => by
  cases a with
  | cons a r =>
    cases r
    cases a
    exact ⟨i, rfl, q _ H (Ex.refl H) (.int _)⟩
theorem den_n {xs : List Int} {c : Int} {k : Nat} {ρ : List (Option Int)} {j : Nat} {i : Int} (h : ρ[j]? = some (some i)) : Den (tVar (j + 1)) (evN xs c k ρ) (.int i) := dn_var (by
  show (ρ.map _)[j]? = _
  rw [List.getElem?_map, h]
  rfl)
theorem den_0 {xs : List Int} {c : Int} {k : Nat} {ρ : List (Option Int)} : Den (tVar 0) (evN xs c k ρ) (.list [.list (xs.map .int), .int c, .int k]) := dn_var rfl
theorem cmulR {i j : Int} (h : -(2 ^ 64) < j ∧ j < 2 ^ 64) : CMul i j := .inr h
theorem cl__law_next (T : Tx K mg aR aS) : Cl P w K mg base 1 "_law_next" (SpN pNx) := by
  refine mk_cl T.d__law_next sc__law_next bd__law_next (len_S (n := 1) (by rintro ds S ⟨m, _, _, rfl, _⟩; rfl)) (fun f cdv A outer s H vs Q E hr h => ?_)
  refine ⟨_, (pss_cons (ps_if (pt_cmpR op_eq (pe_ix (k_ixL K) (pv 0) pe_int (fun _ _ => rfl)) pe_int (nomark _)) (pss_cons (ps_set (i := 3) sc__law_next.nd rfl (Or.inl rfl) (pe_ix (k_ixL K) (pv 0) pe_int (fun _ _ => rfl))) (pss_cons (ps_set (i := 4) sc__law_next.nd rfl (Or.inl rfl) (pe_op op_add pe_int (pv 3))) (pss_cons (ps_if (pt_cmpR op_lt (pv 3) (pe_callB (k_len K) (by rfl) T.n_len PySem.boot_len (pa_cons (pe_ix (k_ixL K) (pv 0) pe_int (fun _ _ => rfl)) pa_nil)) (nomark _)) (pss_one (ps_set (i := 4) sc__law_next.nd rfl (Or.inl rfl) (pe_callB call_abs (by rfl) T.n_abs (by decide +kernel) (pa_cons (pe_ix (k_ixL K) (pe_ix (k_ixL K) (pv 0) pe_int (fun _ _ => rfl)) (pv 3) (fun _ _ => rfl)) pa_nil)))) pss_nil) (pss_cons (ps_if (pt_cmpR op_lt (pv 4) (pe_op op_pow pe_int pe_int) (nomark _)) (pss_cons (ps_set (i := 4) sc__law_next.nd rfl (Or.inl rfl) (pe_op op_mod (pe_callTy call_int1 (by rfl) T.n_int (by decide +kernel) (pa_cons (pe_op op_add (pe_op op_add (pe_op op_mul (pv 4) pe_int) (pe_op op_mul (pv 3) pe_int)) pe_int) pa_nil)) pe_int)) (pss_one (ps_set (i := 4) sc__law_next.nd rfl (Or.inl rfl) (pe_op op_add (pe_op op_mul (pe_op op_mod (pe_callTy call_int1 (by rfl) T.n_int (by decide +kernel) (pa_cons (pe_op op_add (pe_op op_mul (pv 4) pe_int) pe_int) pa_nil)) pe_int) pe_int) (pv 4))))) pss_nil) (pss_cons (ps_asg (pv 4) (pg_sub (pv 0) pe_int set_list)) (pss_one (ps_asg (pe_op op_add (pv 3) pe_int) (pg_sub (pv 0) pe_int set_list)))))))) pss_nil) (pss_cons (ps_set (i := 2) sc__law_next.nd rfl (Or.inl rfl) (pe_op op_mod (pe_callTy call_int1 (by rfl) T.n_int (by decide +kernel) (pa_cons (pe_ix (k_ixL K) (pv 0) pe_int (fun _ _ => rfl)) pa_nil)) (pv 1))) (pss_cons (ps_asg (pe_op op_fdiv (pe_ix (k_ixL K) (pv 0) pe_int (fun _ _ => rfl)) (pv 1)) (pg_sub (pv 0) pe_int set_list)) (pss_one (ps_ret (pv 2)))))), ?_⟩
  obtain ⟨M, a, us, ds, S, m, rfl, r, so, ⟨many, h0, h1, rfl, rfl⟩, q⟩ := h
  cases r with
  | cons r1 r =>
  cases r
  cases r1
  obtain ⟨ma, l, xs, c, k, ha, nl, hl⟩ := so
  have al : l ≠ a := fun z => nl (z ▸ ma)
  have start : AtN a l xs c k [some many, none, none, none] (L2.start ["_law_stream_here", "_law_many", "_law_digit", "_law_k", "_law_cell"] [.ref a, .int many]) H := by
    refine ⟨⟨al, ha, hl⟩, ⟨rfl, fun i s q => ?_⟩, rfl⟩
    match i, q with
    | 0, q =>
      cases q
      exact ⟨_, rfl, _, rfl, .lst (fun z => z) ha (.cons (.lst (fun z => z) hl (.of_ints xs)) (.cons (.int _) (.cons (.int _) .nil)))⟩
    | 1, q =>
      cases q
      exact ⟨_, rfl, _, rfl, .int _⟩
    | 2, q => cases q
    | 3, q => cases q
    | 4, q => cases q
    | i + 5, q => simp [evN] at q
  refine (?_ : DnR a l xs _ c k [some many, none, none, none] (fun g => 0 ≤ g ∧ g < many)) _ H start _ fun g c' k' H' hg x st => ?_
  · have l1 : ∀ (c' : Int) (k' : Nat) ρ', Den (tOp (rIxL K) (tVar 0) (tC (.int 1))) (evN xs c' k' ρ') (.int c') := fun c' k' ρ' => dn_ixL den_0 rfl
    have l2 : ∀ (c' : Int) (k' : Nat) ρ', Den (tOp (rIxL K) (tVar 0) (tC (.int 2))) (evN xs c' k' ρ') (.int k') := fun c' k' ρ' => dn_ixL den_0 rfl
    have l0 : ∀ (c' : Int) (k' : Nat) ρ', Den (tOp (rIxL K) (tVar 0) (tC (.int 0))) (evN xs c' k' ρ') (.list (xs.map .int)) := fun c' k' ρ' => dn_ixL den_0 rfl
    refine nr_seq (G := fun c' k' ρ' => ∃ x y, ρ' = [some many, none, x, y]) ?_ fun c' k' ρ' hρ => ?_
    · refine nn_if (dt_test (dn_op (l1 _ _ _) dn_int rd_eqI)) (fun _ => ?_) fun _ => nn_imp nn_next fun _ _ _ h => ⟨_, _, h.2.2⟩
      refine nn_seq (nn_set (j := 2) (l2 _ _ _)) fun c1 k1 ρ1 ⟨e1, e2, e3⟩ => ?_
      subst e1 e2 e3
      refine nn_seq (nn_set (j := 3) (dn_op dn_int (den_n (j := 2) rfl) rd_add)) fun c1 k1 ρ1 ⟨e1, e2, e3⟩ => ?_
      subst e1 e2 e3
      refine nn_seq (G := fun c' k' ρ' => k' = k1 ∧ ∃ y, ρ' = [some many, none, some (k1 : Int), some y]) ?_ fun c2 k2 ρ2 ⟨e2, y, e3⟩ => ?_
      · refine nn_if (b := decide ((k1 : Int) < (xs.map PyData.int).length)) (dt_test (dn_op (den_n (j := 2) rfl) (dk_len (l0 _ _ _) rfl) rd_lt)) (fun hb => ?_) fun _ => nn_imp nn_next fun _ _ _ h => ⟨h.2.1, _, h.2.2⟩
        have hk : k1 < xs.length := by simpa using hb
        refine nn_imp (nn_set (j := 3) (dn_cb (da_cons (dn_op (l0 _ _ _) (den_n (j := 2) rfl) (rd_ixL (z := .int xs[k1]) (atI_nat (by rw [List.getElem?_map, List.getElem?_eq_getElem hk]; rfl)))) da_nil) rc_abs)) fun _ _ _ h => ⟨h.2.1, _, h.2.2⟩
      subst e2 e3
      refine nn_seq (G := fun c' k' ρ' => k' = k2 ∧ ∃ y, ρ' = [some many, none, some (k2 : Int), some y]) ?_ fun c3 k3 ρ3 ⟨e2, y3, e3⟩ => ?_
      · refine nn_if (dt_test (dn_op (den_n (j := 3) rfl) (dn_op (z := .int (10 ^ (18 : Int).toNat)) dn_int dn_int (rd_I ⟨by decide, by decide, by decide⟩ fun _ _ => .int _)) rd_lt)) (fun _ => ?_) fun _ => nn_imp nn_next fun _ _ _ h => ⟨h.2.1, _, h.2.2⟩
        refine nn_seq (nn_set (j := 3) (dn_op (dn_cb (da_cons (dn_op (dn_op (dn_op (den_n (j := 3) rfl) dn_int (rd_I (cmulR (by decide)) fun _ _ => .int _)) (dn_op (den_n (j := 2) rfl) dn_int (rd_I (cmulR (by decide)) fun _ _ => .int _)) rd_add) dn_int rd_add) da_nil) rc_intI) dn_int (rd_I (by decide) fun _ _ => .int _))) fun c4 k4 ρ4 ⟨e1, e2, e3⟩ => ?_
        subst e1 e2 e3
        refine nn_imp (nn_set (j := 3) (dn_op (dn_op (dn_op (dn_cb (da_cons (dn_op (dn_op (den_n (j := 3) rfl) dn_int (rd_I (cmulR (by decide)) fun _ _ => .int _)) dn_int rd_add) da_nil) rc_intI) dn_int (rd_I (by decide) fun _ _ => .int _)) dn_int (rd_I (cmulR (by decide)) fun _ _ => .int _)) (den_n (j := 3) rfl) rd_add)) fun _ _ _ h => ⟨h.2.1, _, h.2.2⟩
      subst e2 e3
      refine nn_seq (nn_put1 (den_n (j := 3) rfl)) fun c4 k4 ρ4 ⟨e1, e2, e3⟩ => ?_
      subst e1 e2 e3
      refine nn_imp (nn_put2 (i := k4 + 1) ((dn_op (den_n (j := 2) rfl) dn_int rd_add).is (by simp))) fun _ _ _ h => ⟨_, _, h.2.2⟩
    · obtain ⟨x, y, rfl⟩ := hρ
      refine nr_seq (nn_set (j := 1) (i := c' % many) (dn_op (dn_cb (da_cons (l1 _ _ _) da_nil) rc_intI) (den_n (j := 0) rfl) (rd_I h0 fun _ _ => .int _))) fun c1 k1 ρ1 ⟨e1, e2, e3⟩ => ?_
      subst e1 e2 e3
      refine nr_seq (nn_put1 (i := c1 / many) (dn_op (l1 _ _ _) (den_n (j := 0) rfl) (rd_I ⟨h0, h1⟩ fun _ _ => .int _))) fun c2 k2 ρ2 ⟨e1, e2, e3⟩ => ?_
      subst e1 e2 e3
      exact nr_ret (den_n (j := 1) rfl) ⟨Int.emod_nonneg _ (by omega), Int.emod_lt_of_pos _ h0⟩
  · obtain ⟨n', h1', h2'⟩ := st
    have xl := x l _ al hl
    have hM : Mok M H' := fun b hb z => by
      by_cases e : b = a
      · rw [e, h1'] at z; cases z
      · cases c : H b with
        | none => exact m b hb c
        | some o => rw [x b o e c] at z; cases z
    exact q _ _ H' ⟨g, rfl, hg⟩ x hM ⟨ma, l, xs, c', k', h1', nl, h2'⟩ (.int g)
end
end Nd
set_option Elab.async false
set_option linter.all false
set_option maxRecDepth 100000
set_option maxHeartbeats 4000000
namespace Nd
open PySem PySem.Spec PyProof.Rows L2
open Evl (Ex Ex.refl Ex.trans Ex.new)
abbrev s__law_is_integer : Stmt := topS 39
theorem sc__law_is_integer : FnScope ["_law_actual"] ["_law_actual"] (defScope s__law_is_integer) := ⟨rfl, rfl, rfl, by decide +kernel, rfl, by decide +kernel, by decide +kernel⟩
theorem bd__law_is_integer (kV doc pm : Value) (an : Option Addr) (cdv ct : Value) (us : List Value) (hl : us.length = (["_law_actual"] : List Str).length) : bindArgs (PySem.W.fnOf "_law_is_integer" "_law_is_integer" (defArgs s__law_is_integer) (defBody s__law_is_integer) (defScope s__law_is_integer) .none kV doc pm an cdv ct) ⟨us, []⟩ = pure ((["_law_actual"] : List Str).zip us) :=
  match us, hl with | [_], _ => rfl
abbrev s__law_equal : Stmt := topS 40
theorem sc__law_equal : FnScope ["_law_actual", "_law_due", "_law_at"] ["_law_actual", "_law_due"] (defScope s__law_equal) := ⟨rfl, rfl, rfl, by decide +kernel, rfl, by decide +kernel, by decide +kernel⟩
theorem bd__law_equal (kV doc pm : Value) (an : Option Addr) (cdv ct : Value) (us : List Value) (hl : us.length = (["_law_actual", "_law_due"] : List Str).length) : bindArgs (PySem.W.fnOf "_law_equal" "_law_equal" (defArgs s__law_equal) (defBody s__law_equal) (defScope s__law_equal) .none kV doc pm an cdv ct) ⟨us, []⟩ = pure ((["_law_actual", "_law_due"] : List Str).zip us) :=
  match us, hl with | [_, _], _ => rfl
abbrev s__law_row : Stmt := topS 41
theorem sc__law_row : FnScope ["_law_word_here", "_law_first", "_law_second", "_law_parts_here", "_law_one"] ["_law_word_here", "_law_first", "_law_second"] (defScope s__law_row) := ⟨rfl, rfl, rfl, by decide +kernel, rfl, by decide +kernel, by decide +kernel⟩
theorem bd__law_row (kV doc pm : Value) (an : Option Addr) (cdv ct : Value) (us : List Value) (hl : us.length = (["_law_word_here", "_law_first", "_law_second"] : List Str).length) : bindArgs (PySem.W.fnOf "_law_row" "_law_row" (defArgs s__law_row) (defBody s__law_row) (defScope s__law_row) .none kV doc pm an cdv ct) ⟨us, []⟩ = pure ((["_law_word_here", "_law_first", "_law_second"] : List Str).zip us) :=
  match us, hl with | [_, _, _], _ => rfl
abbrev s__law_word : Stmt := topS 49
theorem sc__law_word : FnScope ["_law_stream_here", "_law_letters_here", "_law_most", "_law_k"] ["_law_stream_here", "_law_letters_here", "_law_most"] (defScope s__law_word) := ⟨rfl, rfl, rfl, by decide +kernel, rfl, by decide +kernel, by decide +kernel⟩
theorem bd__law_word (kV doc pm : Value) (an : Option Addr) (cdv ct : Value) (us : List Value) (hl : us.length = (["_law_stream_here", "_law_letters_here", "_law_most"] : List Str).length) : bindArgs (PySem.W.fnOf "_law_word" "_law_word" (defArgs s__law_word) (defBody s__law_word) (defScope s__law_word) .none kV doc pm an cdv ct) ⟨us, []⟩ = pure ((["_law_stream_here", "_law_letters_here", "_law_most"] : List Str).zip us) :=
  match us, hl with | [_, _, _], _ => rfl
section
variable {P : Program} {w : World} {K : PySem.W.Frag} {mg : Str → Option Value} {base : Heap} {aR aS C fI : Addr}
def pIsI (ds : List PyData) (d : PyData) : Prop := ∃ i : Int, ds = [.int i] ∧ d = .bool true
theorem cl__law_is_integer (T : Tx K mg aR aS) : Cl P w K mg base 1 "_law_is_integer" (SpF pIsI) := by
  refine mk_cl T.d__law_is_integer sc__law_is_integer bd__law_is_integer (len_F (by rintro ds d ⟨e, rfl, _⟩; rfl)) (fun f cdv A outer s H vs Q E hr h => ?_)
  refine ⟨_, (pss_one (ps_ret (pe_and (pe_callB (k_isi K) (by rfl) T.n_isinstance (by decide +kernel) (pa_cons (pv 0) (pa_cons (pe_bltn (v := .ty "int") (by rfl) T.n_int (by decide +kernel) rfl) pa_nil))) (pe_one (pe_not (pe_callB (k_isi K) (by rfl) T.n_isinstance (by decide +kernel) (pa_cons (pv 0) (pa_cons (pe_bltn (v := .ty "bool") (by rfl) T.n_bool (by decide +kernel) rfl) pa_nil)))))))), ?_⟩
  refine run_F h fun ds d pre => ?_
  obtain ⟨i, rfl, rfl⟩ := pre
  exact ds_ret (dn_andV (a := true) (b := true) ((dn_isI (dn_var (i := 0) rfl)).is rfl) fun _ => (dn_notV (dn_isB (dn_var (i := 0) rfl))).is rfl)
/-- what stands twice is equal -/
def pLeq (n : Nat) (ds : List PyData) (d : PyData) : Prop := (∃ i : Int, 0 < n ∧ ds = [.int i, .int i] ∧ d = .bool true) ∨ ∃ l : List Int, 1 < n ∧ l.length ≤ 1000 ∧ ds = [dT l, dT l] ∧ d = .bool true
theorem cl__law_equal (T : Tx K mg aR aS) : ∀ n, Cl P w K mg base (n + 1) "_law_equal" (SpF (pLeq n))
  | 0 => cl_none T.d__law_equal bd__law_equal (no_F (by rintro ds d (⟨i, h, _⟩ | ⟨l, h, _⟩) <;> omega))
  | n + 1 => by
    have c__law_equal := cl__law_equal T n
    have c__law_is_integer := (cl__law_is_integer (P := P) (w := w) (base := base) T).mono (j := n + 1) (by omega)
    refine mk_cl T.d__law_equal sc__law_equal bd__law_equal (len_F (by rintro ds d (⟨i, _, rfl, _⟩ | ⟨l, _, _, rfl, _⟩) <;> rfl)) (fun f cdv A outer s H vs Q E hr h => ?_)
    refine ⟨_, (pss_cons (ps_if (pt_cmpR op_isN (pv 1) pe_non (nomark _)) (pss_one (ps_ret (pe_cmpR op_isN (pv 0) pe_non (nomark _)))) pss_nil) (pss_cons (ps_if (pt_val (pe_callB (k_isi K) (by rfl) T.n_isinstance (by decide +kernel) (pa_cons (pv 1) (pa_cons (pe_bltn (v := .ty "bool") (by rfl) T.n_bool (by decide +kernel) rfl) pa_nil)))) (pss_one (ps_ret (pe_and (pe_callB (k_isi K) (by rfl) T.n_isinstance (by decide +kernel) (pa_cons (pv 0) (pa_cons (pe_bltn (v := .ty "bool") (by rfl) T.n_bool (by decide +kernel) rfl) pa_nil))) (pe_one (pe_cmpR op_eq (pv 0) (pv 1) (nomark _)))))) pss_nil) (pss_cons (ps_if (pt_val (pe_callB (k_isi K) (by rfl) T.n_isinstance (by decide +kernel) (pa_cons (pv 1) (pa_cons (pe_bltn (v := .ty "int") (by rfl) T.n_int (by decide +kernel) rfl) pa_nil)))) (pss_one (ps_ret (pe_and (pe_cl c__law_is_integer hr (by first | decide | omega) (by rfl) (pa_cons (pv 0) pa_nil)) (pe_one (pe_cmpR op_eq (pv 0) (pv 1) (nomark _)))))) pss_nil) (pss_cons (ps_if (pt_val (pe_callB (k_isi K) (by rfl) T.n_isinstance (by decide +kernel) (pa_cons (pv 1) (pa_cons (pe_bltn (v := .ty "str") (by rfl) T.n_str (by decide +kernel) rfl) pa_nil)))) (pss_one (ps_ret (pe_and (pe_callB (k_isi K) (by rfl) T.n_isinstance (by decide +kernel) (pa_cons (pv 0) (pa_cons (pe_bltn (v := .ty "str") (by rfl) T.n_str (by decide +kernel) rfl) pa_nil))) (pe_one (pe_cmpR op_eq (pv 0) (pv 1) (nomark _)))))) pss_nil) (pss_cons (ps_if (PW.pt (pw_and (pt_val (pe_callB (k_isi K) (by rfl) T.n_isinstance (by decide +kernel) (pa_cons (pv 1) (pa_cons (pe_bltn (v := .ty "tuple") (by rfl) T.n_tuple (by decide +kernel) rfl) pa_nil)))) (pw_and1 (pt_not (pt_val (pe_callB (k_isi K) (by rfl) T.n_isinstance (by decide +kernel) (pa_cons (pv 0) (pa_cons (pe_bltn (v := .ty "tuple") (by rfl) T.n_tuple (by decide +kernel) rfl) pa_nil)))))))) (pss_one (ps_ret pe_bl)) pss_nil) (pss_cons (ps_if (PW.pt (pw_and (pt_val (pe_callB (k_isi K) (by rfl) T.n_isinstance (by decide +kernel) (pa_cons (pv 1) (pa_cons (pe_bltn (v := .ty "list") (by rfl) T.n_list (by decide +kernel) rfl) pa_nil)))) (pw_and1 (pt_not (pt_val (pe_callB (k_isi K) (by rfl) T.n_isinstance (by decide +kernel) (pa_cons (pv 0) (pa_cons (pe_bltn (v := .ty "list") (by rfl) T.n_list (by decide +kernel) rfl) pa_nil)))))))) (pss_one (ps_ret pe_bl)) pss_nil) (pss_cons (ps_if (pt_cmpR op_ne (pe_callB (k_len K) (by rfl) T.n_len PySem.boot_len (pa_cons (pv 0) pa_nil)) (pe_callB (k_len K) (by rfl) T.n_len PySem.boot_len (pa_cons (pv 1) pa_nil)) (nomark _)) (pss_one (ps_ret pe_bl)) pss_nil) (pss_one (ps_ret (pe_callB (k_all K rfl) (by rfl) T.n_all (by decide +kernel) (pa_cons (pe_lc (own := [("_law_at", 2)]) rfl sc__law_equal.nd (pi_range1 (by rfl) T.n_range (pa_cons (pe_callB (k_len K) (by rfl) T.n_len PySem.boot_len (pa_cons (pv 1) pa_nil)) pa_nil)) (blkOk_by (N := ["_law_actual", "_law_due", "_law_at"]) (sc := defScope s__law_equal) (own := [("_law_at", 2)]) (by decide +kernel)) (fun _ _ _ _ _ => (pg_name (i := 2) sc__law_equal.nd rfl (Or.inl rfl))) (fun _ _ _ _ _ => pts_nil) (fun _ _ _ _ _ => (pe_cl c__law_equal hr (by first | decide | omega) (by rfl) (pa_cons (pe_ix (k_ixT K) (pv 0) (pv 2) (fun _ _ => rfl)) (pa_cons (pe_ix (k_ixT K) (pv 1) (pv 2) (fun _ _ => rfl)) pa_nil))))) pa_nil))))))))))), ?_⟩
    refine run_F h fun ds d pre => ?_
    rcases pre with ⟨i, hn, rfl, rfl⟩ | ⟨l, hn, hl, rfl, rfl⟩
    · refine ds_seq (ds_ifF (dt_test ((dn_op (dn_var (i := 1) rfl) dn_non rd_isN).is rfl)) ds_next) ?_
      refine ds_seq (ds_ifF (dt_B ((dn_isB (dn_var (i := 1) rfl)).is rfl)) ds_next) ?_
      refine ds_seqR (ds_ifT (dt_B ((dn_isI (dn_var (i := 1) rfl)).is rfl)) (ds_ret (dn_andV (a := true) (b := true) (dn_call (Pre := pIsI) (da_cons (dn_var (i := 0) rfl) da_nil) ⟨i, rfl, rfl⟩) fun _ => (dn_op (dn_var (i := 0) rfl) (dn_var (i := 1) rfl) rd_eqI).is (by simp))))
    · have v0 : (st0 ["_law_actual", "_law_due", "_law_at"] [dT l, dT l])[0]? = some (some (.d (dT l))) := rfl
      have v1 : (st0 ["_law_actual", "_law_due", "_law_at"] [dT l, dT l])[1]? = some (some (.d (dT l))) := rfl
      refine ds_seq (ds_ifF (dt_test ((dn_op (dn_var v1) dn_non rd_isN).is rfl)) ds_next) ?_
      refine ds_seq (ds_ifF (dt_B ((dn_isB (dn_var v1)).is rfl)) ds_next) ?_
      refine ds_seq (ds_ifF (dt_B ((dn_isI (dn_var v1)).is rfl)) ds_next) ?_
      refine ds_seq (ds_ifF (dt_B ((dn_isS (dn_var v1)).is rfl)) ds_next) ?_
      refine ds_seq (ds_ifF ((dt_and (a := true) (b := false) (dt_B ((dn_isT (dn_var v1)).is rfl)) fun _ => (dt_not (a := true) (dt_B ((dn_isT (dn_var v0)).is rfl))).is rfl).is rfl) ds_next) ?_
      refine ds_seq (ds_ifF ((dt_and (a := false) (b := false) (dt_B ((dn_isL (dn_var v1)).is rfl)) fun z => nomatch z).is rfl) ds_next) ?_
      have ln : lenD (dT l) = some l.length := by simp [dT, lenD]
      refine ds_seq (ds_ifF (dt_test ((dn_op (dk_len (dn_var v0) ln) (dk_len (dn_var v1) ln) rd_neI).is (by simp))) ds_next) ?_
      refine ds_ret ((dn_cb (da_cons (d := .list ((l.map fun _ => true).map .bool)) ?_ da_nil) rc_all).is (by simp))
      have e : ((l.map fun _ => true).map PyData.bool) = (List.range l.length).map fun _ => PyData.bool true := by
        rw [List.map_map]
        apply List.ext_getElem?
        intro i
        simp [List.getElem?_map, List.getElem?_range]
        by_cases h : i < l.length
        · simp [h]
        · simp [h]
      rw [e]
      refine dn_lcY (List.range l.length) (fun i : Nat => .int (i : Int)) (fun _ => .bool true) (fun i => [some (.d (dT l)), some (.d (dT l)), some (.d (.int (i : Int)))]) ?_ (fun i hi => dg_name) (fun i hi => ?_) (by rw [List.length_range]; omega)
      · have := di_rng1 (n := (l.length : Int)) (da_cons (dk_len (K := K) (dn_var v1) ln) da_nil) (by omega) (by omega)
        rw [Int.toNat_natCast] at this
        exact this
      · have hi' : i < l.length := List.mem_range.mp hi
        have at_ : atI (l.map PyData.int) (i : Int) = some (.int l[i]) := atI_nat (by rw [List.getElem?_map, List.getElem?_eq_getElem hi']; rfl)
        exact dn_call (Pre := pLeq n) (da_cons (dn_op (dn_var (i := 0) rfl) (dn_var (i := 2) rfl) (rd_ixT at_)) (da_cons (dn_op (dn_var (i := 1) rfl) (dn_var (i := 2) rfl) (rd_ixT at_)) da_nil)) (.inl ⟨l[i], by omega, rfl, rfl⟩)
/-! ### a row of two -/
def sp (j : Bool) (e : Xp) : List Xp := if isR j e then parts e else [e]
def pRow (ds : List PyData) (d : PyData) : Prop := ∃ (j : Bool) (e1 e2 : Xp), cnt e1 ≤ 100 ∧ cnt e2 ≤ 100 ∧ ds = [.str (nmR j), enc e1, enc e2] ∧ d = enc (.row j (sp j e1 ++ sp j e2))
theorem nmR_eq (i j : Bool) : decide (nmR i = nmR j) = (i == j) := by cases i <;> cases j <;> decide +kernel
theorem nmO_R (i j : Bool) : decide (nmO i = nmR j) = false := by cases i <;> cases j <;> decide +kernel
theorem sp_len (j : Bool) {e : Xp} (h : cnt e ≤ 100) : (sp j e).length ≤ 100 := by
  unfold sp
  split
  · have := cnt_parts e
    cases e with
    | leaf l => simp [parts]
    | row k ps =>
      have := len_cnt ps
      rw [cnt] at h
      show ps.length ≤ 100
      omega
    | one m e => simp [parts]
  · simp
theorem encL_app (a b : List Xp) : encL (a ++ b) = encL a ++ encL b := by rw [encL_map, encL_map, encL_map, List.map_append]
theorem cl__law_row (T : Tx K mg aR aS) : Cl P w K mg base 1 "_law_row" (SpF pRow) := by
  refine mk_cl T.d__law_row sc__law_row bd__law_row (len_F (by rintro ds d ⟨j, e1, e2, _, _, rfl, _⟩; rfl)) (fun f cdv A outer s H vs Q E hr h => ?_)
  refine ⟨_, (pss_cons (ps_set (i := 3) sc__law_row.nd rfl (Or.inl rfl) (pe_tup pa_nil)) (pss_cons (ps_for PassesOwn.never rfl (k_piL K (pe_lst (pa_cons (pv 1) (pa_cons (pv 2) pa_nil)))) (pg_name (i := 4) sc__law_row.nd rfl (Or.inl rfl)) (pss_one (ps_if (PW.pt (pw_and (pt_val (pe_callB (k_isi K) (by rfl) T.n_isinstance (by decide +kernel) (pa_cons (pv 4) (pa_cons (pe_bltn (v := .ty "tuple") (by rfl) T.n_tuple (by decide +kernel) rfl) pa_nil)))) (pw_and1 (pt_cmpR op_eq (pe_ix (k_ixT K) (pv 4) pe_int (fun _ _ => rfl)) (pv 0) (nomark _))))) (pss_one (ps_set (i := 3) sc__law_row.nd rfl (Or.inl rfl) (pe_op (k_catA K) (pv 3) (pe_ix (k_ixT K) (pv 4) pe_int (fun _ _ => rfl))))) (pss_one (ps_set (i := 3) sc__law_row.nd rfl (Or.inl rfl) (pe_op (k_catA K) (pv 3) (pe_tup (pa_cons (pv 4) pa_nil)))))))) (pss_one (ps_ret (pe_tup (pa_cons (pv 0) (pa_cons (pv 3) pa_nil))))))), ?_⟩
  refine run_F h fun ds d pre => ?_
  obtain ⟨j, e1, e2, h1, h2, rfl, rfl⟩ := pre
  refine ds_seq (ds_set (dn_tup da_nil (Nat.zero_le _))) ?_
  let L : Nat → List Xp := fun i => ([e1, e2].take i).flatMap (sp j)
  let I : Nat → Ev := fun i => [some (.d (.str (nmR j))), some (.d (enc e1)), some (.d (enc e2)), some (.d (.tuple (encL (L i)))), none]
  refine ds_seq (ρ1 := I ([e1, e2].map enc).length) ?_ ?_
  · show DenS _ (I 0) _
    refine ds_forX I (js := [4]) (di_list (dn_lst (da_cons (dn_var (i := 1) rfl) (da_cons (dn_var (i := 2) rfl) da_nil)) (by show 2 ≤ 100000; decide))) fun i d hdi => ?_
    obtain ⟨e, he, rfl⟩ : ∃ e, [e1, e2][i]? = some e ∧ d = enc e := by
      have hdi : ([e1, e2].map enc)[i]? = some d := hdi
      rw [List.getElem?_map] at hdi
      cases c : [e1, e2][i]? with
      | none => rw [c] at hdi; cases hdi
      | some e => rw [c] at hdi; exact ⟨e, rfl, (Option.some.inj hdi).symm⟩
    have hc : cnt e ≤ 100 := by
      have := List.mem_of_getElem? he
      simp at this
      rcases this with rfl | rfl
      · exact h1
      · exact h2
    have hL : L (i + 1) = L i ++ sp j e := by
      show (([e1, e2].take (i + 1)).flatMap _) = _
      rw [take_succ_get he, List.flatMap_append]
      simp [L]
    have hLl : (L i).length ≤ 200 := by
      have a1 := sp_len j h1
      have a2 := sp_len j h2
      show (([e1, e2].take i).flatMap _).length ≤ 200
      match i with
      | 0 => simp
      | 1 => simp; omega
      | i + 2 => simp; omega
    have hI : I (i + 1) = [some (.d (.str (nmR j))), some (.d (enc e1)), some (.d (enc e2)), some (.d (.tuple (encL (L i) ++ encL (sp j e)))), none] := by
      show [_, _, _, some (Sl.d (.tuple (encL (L (i + 1))))), _] = _
      rw [hL, encL_app]
    refine ⟨(I i).set 4 (some (.d (enc e))), dg_name, ?_⟩
    rw [hI]
    have hs := sp_len j hc
    have sl : (encL (L i)).length + (encL (sp j e)).length ≤ 100000 := by
      rw [encL_map, encL_map, List.length_map, List.length_map]
      omega
    have v4 : ((I i).set 4 (some (.d (enc e))))[4]? = some (some (.d (enc e))) := rfl
    have v3 : ((I i).set 4 (some (.d (enc e))))[3]? = some (some (.d (.tuple (encL (L i))))) := rfl
    refine ds_le (ds_if (c := isR j e) (o := .nx (((I i).set 4 (some (.d (enc e)))).set 3 (some (.d (.tuple (encL (L i) ++ encL (sp j e))))))) ?_ (fun hb => ds_set (dn_op (dn_var v3) ?_ (rd_catA sl))) fun hb => ds_set (dn_op (dn_var v3) ?_ (rd_catA sl))) (by simp [LeE, I])
    · cases e with
      | leaf l => exact (dt_and (a := false) (b := false) (dt_B ((dn_isT (dn_var v4)).is rfl)) fun z => nomatch z).is rfl
      | row k ps => exact (dt_and (a := true) (b := k == j) (dt_B ((dn_isT (dn_var v4)).is rfl)) fun _ => dt_test ((dn_op (dn_ixT ((dn_var v4).is (enc_row k ps)) rfl) (dn_var (i := 0) rfl) rd_eqS).is (by rw [nmR_eq]))).is rfl
      | one m e' => exact (dt_and (a := true) (b := false) (dt_B ((dn_isT (dn_var v4)).is rfl)) fun _ => dt_test ((dn_op (dn_ixT ((dn_var v4).is (by rw [enc])) rfl) (dn_var (i := 0) rfl) rd_eqS).is (by rw [nmO_R]))).is rfl
    · cases e with
      | leaf l => cases hb
      | one m e' => cases hb
      | row k ps =>
        have : sp j (.row k ps) = ps := by unfold sp; rw [if_pos hb]; rfl
        rw [this]
        exact (dn_ixT (z := .tuple (ps.map enc)) ((dn_var v4).is (enc_row k ps)) rfl).is (by rw [encL_map])
    · have : sp j e = [e] := by unfold sp; rw [if_neg (by rw [hb]; exact Bool.false_ne_true)]
      rw [this]
      exact dn_tup (da_cons (dn_var v4) da_nil) (by show 1 ≤ 100000; decide)
  · refine ds_ret ((dn_tup (da_cons (dn_var (i := 0) rfl) (da_cons (dn_var (i := 3) rfl) da_nil)) (by show 2 ≤ 100000; decide)).is ?_)
    rw [enc_row]
    show PyData.tuple [_, PyData.tuple (encL (L 2))] = _
    simp [L, encL_map]
/-! ### a word at random -/
def isW (n : Nat) (ls : List Nat) (d : PyData) : Prop := ∃ w : List Nat, d = .str (Sx w) ∧ w.length ≤ n ∧ ∀ c ∈ w, c ∈ ls
def pWd (ds : List PyData) (S : PyData → Prop) : Prop := ∃ (ls : List Nat) (most : Nat), 1 ≤ ls.length ∧ ls.length ≤ 10 ∧ most ≤ 100 ∧ ds = [.str (Sx ls), .int most] ∧ S = isW most ls
theorem words_of {ls : List Nat} : ∀ {ds : List PyData}, (∀ d ∈ ds, ∃ c ∈ ls, d = .str (Sx [c])) → ∃ w : List Nat, w.length = ds.length ∧ (∀ c ∈ w, c ∈ ls) ∧ ds = w.map fun c => .str (Sx [c])
  | [], _ => ⟨[], rfl, by simp, rfl⟩
  | d :: ds, h => by
    obtain ⟨c, hc, rfl⟩ := h d (by simp)
    obtain ⟨w, h1, h2, rfl⟩ := words_of fun d hd => h d (List.mem_cons_of_mem _ hd)
    refine ⟨c :: w, by rw [List.length_cons, List.length_cons, h1], ?_, rfl⟩
    intro x hx
    rcases List.mem_cons.mp hx with rfl | hx
    · exact hc
    · exact h2 x hx
theorem join0 (lls : List (List Nat)) : Txt.join ("" : Str) (lls.map Sx) = Sx lls.flatten := by
  have hs : (("" : Str)) = Sx [] := by decide +kernel
  rw [hs]
  have j : ∀ l : List (List Nat), TL.joinL [] l = l.flatten := by
    intro l
    induction l with
    | nil => rfl
    | cons p r ih =>
      cases r with
      | nil => simp [TL.joinL]
      | cons q r => rw [TL.joinL, ih]; simp
  have := SX.join_S [] lls
  rw [j] at this
  exact this
theorem flat1 : ∀ w : List Nat, (w.map fun c => [c]).flatten = w
  | [] => rfl
  | c :: w => by rw [List.map_cons, List.flatten_cons, flat1 w]; rfl
theorem ones : ∀ w : List Nat, (w.map fun _ => 1).sum = w.length
  | [] => rfl
  | c :: w => by rw [List.map_cons, List.sum_cons, ones w, List.length_cons]; omega
theorem ee_join {a : Addr} {f : Fr a} {ρ : Ev} {te : TE} {S1 S : PyData → Prop} (h : DeE f te ρ S1) (hs : ∀ d, S1 d → ∃ w : List Nat, w.length ≤ 1000 ∧ d = .list (w.map fun c => .str (Sx [c])) ∧ S (.str (Sx w))) : DeE f (tJoin K (tC (.str ("" : Str))) te) ρ S := fun M σ H m e s Q q => by
  refine ⟨⟨_, rfl⟩, h M σ H m e s _ fun d v H1 hd x1 m1 s1 d1 => ?_⟩
  obtain ⟨w, hw, rfl, sw⟩ := hs d hd
  have e1 : (w.map fun c => PyData.str (Sx [c])) = ((w.map fun c => [c]).map Sx).map PyData.str := by rw [List.map_map, List.map_map]; rfl
  rw [e1] at d1
  cases d1 with
  | lst n h2 r =>
    have e2 := r.strs
    subst e2
    refine ⟨_, _, _, rfl, rfl, .inl (SqL.of h2), ?_, ?_⟩
    · have e3 : (((w.map fun c => [c]).map Sx).map (·.length)).sum = w.length := by
        rw [List.map_map, List.map_map]
        have : ((fun x : Str => x.length) ∘ Sx) ∘ (fun c : Nat => [c]) = fun _ => 1 := by
          funext c
          exact len_Sx [c]
        rw [this, ones]
      rw [e3, List.length_map, List.length_map]
      have : (("" : Str)).length = 0 := by decide +kernel
      rw [this]
      omega
    · rw [join0, flat1]
      exact q _ _ H1 sw x1 m1 s1 (.str _)
theorem cl__law_word (T : Tx K mg aR aS) : Cl P w K mg base 2 "_law_word" (SpN pWd) := by
  have c__law_next := cl__law_next (P := P) (w := w) (base := base) T
  refine mk_cl T.d__law_word sc__law_word bd__law_word (len_S (n := 2) (by rintro ds S ⟨ls, most, _, _, _, rfl, _⟩; rfl)) (fun f cdv A outer s H vs Q E hr h => ?_)
  refine ⟨_, (pss_one (ps_ret (k_join K pe_str (pe_lc (own := [("_law_k", 3)]) rfl sc__law_word.nd (pi_range1 (by rfl) T.n_range (pa_cons (pe_cl c__law_next hr (by first | decide | omega) (by rfl) (pa_cons (pv 0) (pa_cons (pe_op op_add (pv 2) pe_int) pa_nil))) pa_nil)) (blkOk_by (N := ["_law_stream_here", "_law_letters_here", "_law_most", "_law_k"]) (sc := defScope s__law_word) (own := [("_law_k", 3)]) (by decide +kernel)) (fun _ _ _ _ _ => (pg_name (i := 3) sc__law_word.nd rfl (Or.inl rfl))) (fun _ _ _ _ _ => pts_nil) (fun _ _ _ _ _ => (pe_ix ix_str (pv 1) (pe_cl c__law_next hr (by first | decide | omega) (by rfl) (pa_cons (pv 0) (pa_cons (pe_callB call_len_str (by rfl) T.n_len PySem.boot_len (pa_cons (pv 1) pa_nil)) pa_nil))) (fun _ _ => rfl))))))), ?_⟩
  refine run_S h fun a ds S pre => ?_
  obtain ⟨ls, most, h1, h2, h3, rfl, rfl⟩ := pre
  refine es_ret (ee_join (ee_lc (N := fun n => n ≤ most) (ei_rng1 (ee_call (Pre := pNx) (S := gS fun g => 0 ≤ g ∧ g < most + 1) rfl (ea_pure (da_cons (dn_op (dn_var (i := 2) rfl) dn_int rd_add) da_nil)) fun ds hds => ?_) fun d hd => ?_) (fun n hn => Nat.le_trans (m := most) hn (by omega)) (S := fun d => ∃ c ∈ ls, d = .str (Sx [c])) fun i => ?_) fun d hd => ?_)
  · subst hds
    exact ⟨(most : Int) + 1, by omega, by omega, rfl, rfl⟩
  · obtain ⟨g, rfl, g0, g1⟩ := hd
    exact ⟨g.toNat, by rw [Int.toNat_of_nonneg g0], by omega, by show g.toNat ≤ most; omega⟩
  · refine ee_op (S1 := (· = .str (Sx ls))) (S2 := gS fun g => 0 ≤ g ∧ g < ls.length) (ee_pure (dn_var (i := 1) rfl)) (fun x hx => ee_call (Pre := pNx) rfl (ea_pure (da_cons ((dn_cb (da_cons (dn_var (i := 1) rfl) da_nil) (rc_lenS (by rw [len_Sx]; omega))).is (by rw [len_Sx])) da_nil)) fun ds hds => ?_) fun x y hx hy => ?_
    · subst hds
      exact ⟨ls.length, by omega, by omega, rfl, rfl⟩
    · obtain ⟨g, rfl, g0, g1⟩ := hy
      subst hx
      have hg : g.toNat < ls.length := by omega
      have hm : ls.getD g.toNat 0 ∈ ls := by rw [List.getD_eq_getElem?_getD, List.getElem?_eq_getElem hg]; exact List.getElem_mem _
      exact ⟨_, rd_ixS (by rw [len_Sx]; omega) (atI_in 0 g0 g1), _, hm, rfl⟩
  · obtain ⟨n, ds, hn, hl, hS, rfl⟩ := hd
    obtain ⟨w, w1, w2, rfl⟩ := words_of hS
    have hn' : n ≤ most := hn
    exact ⟨w, by omega, rfl, w, rfl, by omega, w2⟩
end
end Nd
set_option Elab.async false
set_option linter.all false
set_option maxRecDepth 100000
set_option maxHeartbeats 4000000
namespace Nd
open PySem PySem.Spec PyProof.Rows L2
open Evl (Ex Ex.refl Ex.trans Ex.new)
abbrev s__law_expression : Stmt := topS 42
theorem sc__law_expression : FnScope ["_law_stream_here", "_law_most", "_law_letters_here", "_law_parts_here", "_law_wraps", "_law_turn", "_law_at", "_law_first", "_law_second", "_law_one", "_law_k"] ["_law_stream_here", "_law_most", "_law_letters_here"] (defScope s__law_expression) := ⟨rfl, rfl, rfl, by decide +kernel, rfl, by decide +kernel, by decide +kernel⟩
theorem bd__law_expression (kV doc pm : Value) (an : Option Addr) (cdv ct : Value) (us : List Value) (hl : us.length = (["_law_stream_here", "_law_most", "_law_letters_here"] : List Str).length) : bindArgs (PySem.W.fnOf "_law_expression" "_law_expression" (defArgs s__law_expression) (defBody s__law_expression) (defScope s__law_expression) .none kV doc pm an cdv ct) ⟨us, []⟩ = pure ((["_law_stream_here", "_law_most", "_law_letters_here"] : List Str).zip us) :=
  match us, hl with | [_, _, _], _ => rfl
abbrev LT : List Nat := [97, 98, 99, 100]
structure GoodX (e : Xp) : Prop where
  ok : Ok e
  d : dp e < 40
  p : 1 ≤ (lt e).length
  a : ∀ c ∈ lt e, c ∈ LT
def isX (d : PyData) : Prop := ∃ e, d = enc e ∧ GoodX e
/-- the parts, as they are put together -/
structure PIn (es : List Xp) (b : Nat) : Prop where
  w : ∀ e ∈ es, wf e = true ∧ ∀ c ∈ lt e, c ∈ LT
  c : (es.map cnt).sum ≤ b
  l1 : 1 ≤ (es.map fun e => (lt e).length).sum
  l2 : (es.map fun e => (lt e).length).sum ≤ 6
theorem cntL_sum : ∀ ps : List Xp, cnt.cntL ps = (ps.map cnt).sum
  | [] => rfl
  | e :: r => by rw [cnt.cntL, cntL_sum r]; rfl
theorem sp_cnt (j : Bool) (e : Xp) : cnt.cntL (sp j e) ≤ cnt e := by
  unfold sp
  split
  · cases e with
    | leaf l => simp [parts, cnt.cntL]
    | row k ps => rw [cnt]; show cnt.cntL ps ≤ _; omega
    | one m e => rw [cnt]; show cnt.cntL [e] ≤ _; simp [cnt.cntL]
  · simp [cnt.cntL]
theorem sp_lt (j : Bool) (e : Xp) : lt.ltL (sp j e) = lt e := by
  unfold sp
  split
  · rename_i h
    cases e with
    | leaf l => cases h
    | row k ps => rfl
    | one m e => cases h
  · simp [lt.ltL]
theorem sp_wf (j : Bool) {e : Xp} (h : wf e = true) : wf.wfL j (sp j e) = true ∧ 1 ≤ (sp j e).length := by
  unfold sp
  split
  · rename_i hj
    cases e with
    | leaf l => cases hj
    | row k ps =>
      have : k = j := by simpa [isR] using hj
      subst this
      rw [wf, Bool.and_eq_true] at h
      refine ⟨h.2, ?_⟩
      have := of_decide_eq_true h.1
      show 1 ≤ ps.length
      omega
    | one m e => cases hj
  · rename_i hj
    have : isR j e = false := by simpa using hj
    simp [wf.wfL, h, this]
theorem wfL_append {j : Bool} : ∀ {a b : List Xp}, wf.wfL j a = true → wf.wfL j b = true → wf.wfL j (a ++ b) = true
  | [], b, _, h => h
  | e :: a, b, h, h' => by
    rw [wf.wfL, Bool.and_eq_true, Bool.and_eq_true] at h
    rw [List.cons_append, wf.wfL, h.1, h.2.1, wfL_append h.2.2 h']
    rfl
/-- two neighbours become a row -/
theorem PIn.row {A B : List Xp} {e1 e2 : Xp} {b : Nat} (j : Bool) (h : PIn (A ++ e1 :: e2 :: B) b) : PIn (A ++ .row j (sp j e1 ++ sp j e2) :: B) (b + 1) := by
  have w1 := h.w e1 (by simp)
  have w2 := h.w e2 (by simp)
  have hlt : lt (.row j (sp j e1 ++ sp j e2)) = lt e1 ++ lt e2 := by rw [lt, ltL_app, sp_lt, sp_lt]
  have hc := h.c
  have l1 := h.l1
  have l2 := h.l2
  have c1 := sp_cnt j e1
  have c2 := sp_cnt j e2
  simp only [List.map_append, List.map_cons, List.sum_append, List.sum_cons] at hc l1 l2
  refine ⟨fun e he => ?_, ?_, ?_, ?_⟩
  · have : e ∈ A ∨ e = .row j (sp j e1 ++ sp j e2) ∨ e ∈ B := by simpa using he
    rcases this with he | rfl | he
    · exact h.w e (by simp [he])
    · refine ⟨?_, fun c hc => ?_⟩
      · obtain ⟨a1, a2⟩ := sp_wf j w1.1
        obtain ⟨b1, b2⟩ := sp_wf j w2.1
        rw [wf, wfL_append a1 b1, Bool.and_true]
        refine decide_eq_true ?_
        rw [List.length_append]
        omega
      · rw [hlt] at hc
        rcases List.mem_append.mp hc with hc | hc
        · exact w1.2 c hc
        · exact w2.2 c hc
    · exact h.w e (by simp [he])
  · simp only [List.map_append, List.map_cons, List.sum_append, List.sum_cons]
    rw [cnt, cntL_app]
    omega
  · simp only [List.map_append, List.map_cons, List.sum_append, List.sum_cons]
    rw [hlt, List.length_append]
    omega
  · simp only [List.map_append, List.map_cons, List.sum_append, List.sum_cons]
    rw [hlt, List.length_append]
    omega
theorem PIn.one {A B : List Xp} {e : Xp} {b : Nat} (m : Bool) (h : PIn (A ++ e :: B) b) : PIn (A ++ .one m e :: B) (b + 1) := by
  have w1 := h.w e (by simp)
  have hc := h.c
  have l1 := h.l1
  have l2 := h.l2
  simp only [List.map_append, List.map_cons, List.sum_append, List.sum_cons] at hc l1 l2
  refine ⟨fun x he => ?_, ?_, ?_, ?_⟩
  · have : x ∈ A ∨ x = .one m e ∨ x ∈ B := by simpa using he
    rcases this with he | rfl | he
    · exact h.w x (by simp [he])
    · exact w1
    · exact h.w x (by simp [he])
  · simp only [List.map_append, List.map_cons, List.sum_append, List.sum_cons]
    rw [cnt]
    omega
  · simp only [List.map_append, List.map_cons, List.sum_append, List.sum_cons]
    exact l1
  · simp only [List.map_append, List.map_cons, List.sum_append, List.sum_cons]
    exact l2
theorem PIn.mono {es : List Xp} {a b : Nat} (h : PIn es a) (l : a ≤ b) : PIn es b := ⟨h.w, Nat.le_trans h.c l, h.l1, h.l2⟩
theorem PIn.good {e : Xp} {b : Nat} (h : PIn [e] b) (hb : b ≤ 30) : GoodX e := by
  have w := h.w e (by simp)
  have hc := h.c
  have l1 := h.l1
  have l2 := h.l2
  simp at hc l1 l2
  have := dp_cnt e
  exact ⟨⟨by omega, by omega, w.1⟩, by omega, by omega, w.2⟩
theorem PIn.cnt_le {es : List Xp} {b : Nat} {e : Xp} (h : PIn es b) (he : e ∈ es) : cnt e ≤ b := by
  have : ∀ l : List Xp, e ∈ l → cnt e ≤ (l.map cnt).sum := by
    intro l
    induction l with
    | nil => intro h; cases h
    | cons x r ih =>
      intro h
      rw [List.map_cons, List.sum_cons]
      rcases List.mem_cons.mp h with rfl | h
      · omega
      · have := ih h; omega
  exact Nat.le_trans (this es he) h.c
theorem PIn.start {w : List Nat} (h1 : 1 ≤ w.length) (h2 : w.length ≤ 6) (h : ∀ c ∈ w, c ∈ LT) : PIn (w.map fun c => .leaf [c]) 6 := by
  have a : ∀ w : List Nat, ((w.map fun c => Xp.leaf [c]).map cnt).sum = w.length := by
    intro w
    induction w with
    | nil => rfl
    | cons c r ih => rw [List.map_cons, List.map_cons, List.sum_cons, ih, cnt, List.length_cons]; omega
  have b : ∀ w : List Nat, ((w.map fun c => Xp.leaf [c]).map fun e => (lt e).length).sum = w.length := by
    intro w
    induction w with
    | nil => rfl
    | cons c r ih => rw [List.map_cons, List.map_cons, List.sum_cons, ih, lt, List.length_cons, List.length_cons, List.length_nil]; omega
  refine ⟨fun e he => ?_, by rw [a]; exact h2, by rw [b]; exact h1, by rw [b]; exact h2⟩
  obtain ⟨c, hc, rfl⟩ := List.mem_map.mp he
  have hc' := h c hc
  refine ⟨?_, fun x hx => ?_⟩
  · simp only [LT, List.mem_cons, List.not_mem_nil, or_false] at hc'
    rcases hc' with rfl | rfl | rfl | rfl <;> decide
  · rw [lt, List.mem_singleton] at hx
    rw [hx]
    exact hc'
theorem PIn.empty {es : List Xp} {b : Nat} (h : PIn es b) : PIn (es ++ [.leaf []]) (b + 1) := by
  have hc := h.c
  have l1 := h.l1
  have l2 := h.l2
  refine ⟨fun e he => ?_, ?_, ?_, ?_⟩
  · rcases List.mem_append.mp he with he | he
    · exact h.w e he
    · rw [List.mem_singleton.mp he]
      exact ⟨rfl, fun c hc => nomatch hc⟩
  all_goals
    simp [cnt, lt]
    omega
theorem split2 : ∀ (l : List Xp) (g : Nat), g + 1 < l.length → ∃ A e1 e2 B, l = A ++ e1 :: e2 :: B ∧ A.length = g
  | [], g, h => by simp at h
  | [x], g, h => by simp at h
  | x :: y :: r, 0, h => ⟨[], x, y, r, rfl, rfl⟩
  | x :: y :: r, g + 1, h => by
    obtain ⟨A, e1, e2, B, e, hl⟩ := split2 (y :: r) g (by simpa using h)
    exact ⟨x :: A, e1, e2, B, by rw [e]; rfl, by simp [hl]⟩
section
variable {a : Addr} {f : Fr a} {K : PySem.W.Frag} {ρ : Ev} {S : PyData → Prop}
theorem ee_callF {Pre : List PyData → PyData → Prop} {E : XK} {tA : TA} {S1 : List PyData → Prop} (h : DeA f tA ρ S1) (hp : ∀ ds, S1 ds → ∃ d, Pre ds d ∧ S d) : DeE f (tCall (SpF Pre) [] E tA) ρ S := fun M σ H m e s Q q =>
  h M σ H m e s _ fun ds vs H1 hs x1 m1 s1 d1 => by
    obtain ⟨d, pd, sd⟩ := hp ds hs
    exact ⟨M, ds, d, m1, by rw [List.append_nil]; exact d1, pd, fun v H2 e2 d2 => q d v H2 sd (x1.trans (.of e2)) (m1.ex e2) (f.ex s1 e2) d2⟩
/-- a number from the stream below n -/
theorem ee_next {j : Nat} {te : TE} {E : XK} {n : Int} (hj : ρ[j]? = some (some (.r (.ref a)))) (h : DeE f te ρ (· = .int n)) (h0 : 0 < n) (h1 : n < 1073741824) : DeE f (tCall (SpN pNx) [] E (tCons (tVar j) (tCons te tNil))) ρ (gS fun g => 0 ≤ g ∧ g < n) :=
  ee_call (Pre := pNx) hj (ea_cons h fun _ _ => ea_pure da_nil) fun ds hds => by
    obtain ⟨x, xs, rfl, rfl, rfl⟩ := hds
    exact ⟨n, h0, h1, rfl, rfl⟩
theorem empty_enc : PyData.str ("" : Str) = enc (.leaf []) := by rw [enc]; congr 1
/-- one of two words -/
theorem ee_two {te : TE} {s0 s1 : Str} (h : DeE f te ρ (gS fun g => 0 ≤ g ∧ g < 2)) : DeE f (tOp (rIxL K) (tLst (tCons (tC (.str s0)) (tCons (tC (.str s1)) tNil))) te) ρ (fun d => ∃ b : Bool, d = .str (if b then s0 else s1)) :=
  ee_op (ee_pure (dn_lst (da_cons dn_str (da_cons dn_str da_nil)) (by show 2 ≤ 100000; decide))) (fun _ _ => h) fun x y hx hy => by
    obtain ⟨g, rfl, g0, g1⟩ := hy
    subst hx
    have : g = 0 ∨ g = 1 := by omega
    rcases this with rfl | rfl
    · exact ⟨_, rd_ixL rfl, true, rfl⟩
    · exact ⟨_, rd_ixL rfl, false, rfl⟩
/-- int(next(3) > 0) -/
theorem ee_pos {te : TE} (h : DeE f te ρ (gS fun g => 0 ≤ g ∧ g < 3)) : DeE f (tCB (fun xs H Q => (∃ i, xs = [.int i] ∧ Q (.int i) H) ∨ ∃ k, xs = [.bl k] ∧ Q (.int (if k then 1 else 0)) H) (tCons (tOp (rI0 fun i j => .bl (decide (j < i))) te (tC (.int 0))) tNil)) ρ (gS fun g => 0 ≤ g ∧ g < 2) :=
  ee_cb (ea_cons (S1 := fun d => ∃ b, d = .bool b) (ee_op h (fun _ _ => ee_pure dn_int) fun x y hx hy => by
    obtain ⟨g, rfl, _⟩ := hx
    subst hy
    exact ⟨_, rd_gt, _, rfl⟩) fun _ _ => ea_pure da_nil) fun ds hds => by
    obtain ⟨x, xs, ⟨b, rfl⟩, rfl, rfl⟩ := hds
    refine ⟨_, rc_intB, _, rfl, ?_⟩
    cases b <;> decide
theorem eb_imp {tt : TT} {S1 S2 : Bool → Prop} (h : DeB f tt ρ S1) (i : ∀ b, S1 b → S2 b) : DeB f tt ρ S2 := fun M σ H m e s Q q => h M σ H m e s _ fun b H2 sb => q b H2 (i b sb)
/-- next(n) == 0 -/
theorem eb_zero {te : TE} {S1 : Int → Prop} (h : DeE f te ρ (gS S1)) : DeB f (tTest (tOp rEq te (tC (.int 0)))) ρ (fun _ => True) := eb_test (S := fun d => ∃ b, d = .bool b) (ee_op h (fun _ _ => ee_pure dn_int) fun x y hx hy => by
    obtain ⟨g, rfl, _⟩ := hx
    subst hy
    exact ⟨_, rd_eqI, _, rfl⟩) fun d hd => by
    obtain ⟨b, rfl⟩ := hd
    exact ⟨b, rfl, trivial⟩
end
section
variable {P : Program} {w : World} {K : PySem.W.Frag} {mg : Str → Option Value} {base : Heap} {aR aS C fI : Addr}
def pEx (ds : List PyData) (S : PyData → Prop) : Prop := ∃ L : List Nat, 1 ≤ L.length ∧ L.length ≤ 4 ∧ (∀ c ∈ L, c ∈ LT) ∧ ds = [.int 6, .str (Sx L)] ∧ S = isX
theorem cl__law_expression (T : Tx K mg aR aS) : Cl P w K mg base 2 "_law_expression" (SpN pEx) := by
  have c__law_next := cl__law_next (P := P) (w := w) (base := base) T
  have c__law_row := cl__law_row (P := P) (w := w) (base := base) T
  refine mk_cl T.d__law_expression sc__law_expression bd__law_expression (len_S (n := 2) (by rintro ds S ⟨L, _, _, _, rfl, _⟩; rfl)) (fun f cdv A outer s H vs Q E hr h => ?_)
  refine ⟨_, (pss_cons (ps_setLc (i := 3) (own := [("_law_k", 10)]) rfl sc__law_expression.nd rfl rfl (sw_true rfl rfl rfl (by decide +kernel)) (pi_range1 (by rfl) T.n_range (pa_cons (pe_op op_add pe_int (pe_cl c__law_next hr (by first | decide | omega) (by rfl) (pa_cons (pv 0) (pa_cons (pv 1) pa_nil)))) pa_nil)) (blkOk_by (N := ["_law_stream_here", "_law_most", "_law_letters_here", "_law_parts_here", "_law_wraps", "_law_turn", "_law_at", "_law_first", "_law_second", "_law_one", "_law_k"]) (sc := defScope s__law_expression) (own := [("_law_k", 10)]) (by decide +kernel)) (fun _ _ _ _ _ => (pg_name (i := 10) sc__law_expression.nd rfl (Or.inl rfl))) (fun _ _ _ _ _ => pts_nil) (fun _ _ _ _ _ => (pe_ix ix_str (pv 2) (pe_cl c__law_next hr (by first | decide | omega) (by rfl) (pa_cons (pv 0) (pa_cons (pe_callB call_len_str (by rfl) T.n_len PySem.boot_len (pa_cons (pv 2) pa_nil)) pa_nil))) (fun _ _ => rfl)))) (pss_cons (ps_if (pt_cmpR op_eq (pe_cl c__law_next hr (by first | decide | omega) (by rfl) (pa_cons (pv 0) (pa_cons pe_int pa_nil))) pe_int (nomark _)) (pss_one (ps_expr (k_bm K PySem.F.plainAttrs_list PySem.F.slot_list_append PySem.F.type_list_append mt_append (pv 3) (pa_cons pe_str pa_nil)))) pss_nil) (pss_cons (ps_set (i := 4) sc__law_expression.nd rfl (Or.inl rfl) pe_int) (pss_cons (ps_for PassesOwn.never rfl (pi_range1 (by rfl) T.n_range (pa_cons (pe_op op_sub (pe_callB (k_len K) (by rfl) T.n_len PySem.boot_len (pa_cons (pv 3) pa_nil)) pe_int) pa_nil)) (pg_name (i := 5) sc__law_expression.nd rfl (Or.inl rfl)) (pss_cons (ps_set (i := 6) sc__law_expression.nd rfl (Or.inl rfl) (pe_cl c__law_next hr (by first | decide | omega) (by rfl) (pa_cons (pv 0) (pa_cons (pe_op op_sub (pe_callB (k_len K) (by rfl) T.n_len PySem.boot_len (pa_cons (pv 3) pa_nil)) pe_int) pa_nil)))) (pss_cons (ps_set (i := 7) sc__law_expression.nd rfl (Or.inl rfl) (k_bm K PySem.F.plainAttrs_list PySem.F.slot_list_pop PySem.F.type_list_pop mt_popAt (pv 3) (pa_cons (pv 6) pa_nil))) (pss_cons (ps_set (i := 8) sc__law_expression.nd rfl (Or.inl rfl) (k_bm K PySem.F.plainAttrs_list PySem.F.slot_list_pop PySem.F.type_list_pop mt_popAt (pv 3) (pa_cons (pv 6) pa_nil))) (pss_cons (ps_set (i := 9) sc__law_expression.nd rfl (Or.inl rfl) (pe_cl c__law_row hr (by first | decide | omega) (by rfl) (pa_cons (pe_ix (k_ixL K) (pe_lst (pa_cons pe_str (pa_cons pe_str pa_nil))) (pe_cl c__law_next hr (by first | decide | omega) (by rfl) (pa_cons (pv 0) (pa_cons pe_int pa_nil))) (fun _ _ => rfl)) (pa_cons (pv 7) (pa_cons (pv 8) pa_nil))))) (pss_cons (ps_if (PW.pt (pw_and (pt_cmpR op_gt (pv 4) pe_int (nomark _)) (pw_and1 (pt_cmpR op_eq (pe_cl c__law_next hr (by first | decide | omega) (by rfl) (pa_cons (pv 0) (pa_cons pe_int pa_nil))) pe_int (nomark _))))) (pss_cons (ps_set (i := 4) sc__law_expression.nd rfl (Or.inl rfl) (pe_op op_sub (pv 4) pe_int)) (pss_one (ps_set (i := 9) sc__law_expression.nd rfl (Or.inl rfl) (pe_tup (pa_cons (pe_ix (k_ixL K) (pe_lst (pa_cons pe_str (pa_cons pe_str pa_nil))) (pe_callTy call_int1 (by rfl) T.n_int (by decide +kernel) (pa_cons (pe_cmpR op_gt (pe_cl c__law_next hr (by first | decide | omega) (by rfl) (pa_cons (pv 0) (pa_cons pe_int pa_nil))) pe_int (nomark _)) pa_nil)) (fun _ _ => rfl)) (pa_cons (pv 9) pa_nil)))))) pss_nil) (pss_one (ps_expr (k_bm K PySem.F.plainAttrs_list PySem.F.slot_list_insert PySem.F.type_list_insert mt_insert (pv 3) (pa_cons (pv 6) (pa_cons (pv 9) pa_nil))))))))))) (pss_cons (ps_if (PW.pt (pw_and (pt_cmpR op_gt (pv 4) pe_int (nomark _)) (pw_and1 (pt_cmpR op_eq (pe_cl c__law_next hr (by first | decide | omega) (by rfl) (pa_cons (pv 0) (pa_cons pe_int pa_nil))) pe_int (nomark _))))) (pss_one (ps_ret (pe_tup (pa_cons (pe_ix (k_ixL K) (pe_lst (pa_cons pe_str (pa_cons pe_str pa_nil))) (pe_callTy call_int1 (by rfl) T.n_int (by decide +kernel) (pa_cons (pe_cmpR op_gt (pe_cl c__law_next hr (by first | decide | omega) (by rfl) (pa_cons (pv 0) (pa_cons pe_int pa_nil))) pe_int (nomark _)) pa_nil)) (fun _ _ => rfl)) (pa_cons (pe_ix (k_ixL K) (pv 3) pe_int (fun _ _ => rfl)) pa_nil))))) pss_nil) (pss_one (ps_ret (pe_ix (k_ixL K) (pv 3) pe_int (fun _ _ => rfl))))))))), ?_⟩
  refine run_S h fun a ds S pre => ?_
  obtain ⟨L, h1, h2, h3, rfl, rfl⟩ := pre
  refine es_ownL (N := fun n => 1 ≤ n ∧ n ≤ 6) (S := fun d => ∃ c ∈ L, d = .str (Sx [c])) (ei_rng1 (S := gS fun g => 1 ≤ g ∧ g ≤ 6) (ee_op (ee_pure dn_int) (fun _ _ => ee_next (n := 6) rfl (ee_pure (dn_var (i := 1) rfl)) (by omega) (by omega)) fun x y hx hy => ?_) fun d hd => ?_) (fun n hn => Nat.le_trans hn.2 (by decide)) (fun i => ?_) fun p n ds hn hl hS => ?_
  · obtain ⟨g, rfl, g0, g1⟩ := hy
    subst hx
    exact ⟨_, rd_add, _, rfl, by omega⟩
  · obtain ⟨g, rfl, g0, g1⟩ := hd
    exact ⟨g.toNat, by rw [Int.toNat_of_nonneg (by omega)], by omega, by constructor <;> omega⟩
  · refine ee_op (S1 := (· = .str (Sx L))) (ee_pure (dn_var (i := 2) rfl)) (fun x hx => ee_next (n := L.length) rfl (ee_pure ((dn_cb (da_cons (dn_var (i := 2) rfl) da_nil) (rc_lenS (by rw [len_Sx]; omega))).is (by rw [len_Sx]))) (by omega) (by omega)) fun x y hx hy => ?_
    obtain ⟨g, rfl, g0, g1⟩ := hy
    subst hx
    have hg : g.toNat < L.length := by omega
    have hm : L.getD g.toNat 0 ∈ L := by rw [List.getD_eq_getElem?_getD, List.getElem?_eq_getElem hg]; exact List.getElem_mem _
    exact ⟨_, rd_ixS (by rw [len_Sx]; omega) (atI_in 0 g0 g1), _, hm, rfl⟩
  · obtain ⟨w, w1, w2, rfl⟩ := words_of hS
    have hw : (w.map fun c => PyData.str (Sx [c])) = (w.map fun c => Xp.leaf [c]).map enc := by rw [List.map_map]; rfl
    have hn' : 1 ≤ n ∧ n ≤ 6 := hn
    rw [List.length_map] at hl
    have p0 := PIn.start (w := w) (by omega) (by omega) (fun c hc => h3 c (w2 c hc))
    rw [hw]
    have l0 : (w.map fun c => Xp.leaf [c]).length ≤ 6 ∧ 1 ≤ (w.map fun c => Xp.leaf [c]).length := by rw [List.length_map]; omega
    generalize (w.map fun c => Xp.leaf [c]) = es0 at p0 l0
    let V : Option Sl → Ev := fun o => [some (.r (.ref a)), some (.d (.int 6)), some (.d (.str (Sx L))), some (.r (.ref p)), o, none, none, none, none, none, none]
    show DeP a p _ (V none) _ _ _
    refine ep_seq (G := fun ρ' ds' => ρ' = V none ∧ ∃ es : List Xp, ds' = es.map enc ∧ PIn es 7 ∧ 1 ≤ es.length ∧ es.length ≤ 7) (ep_if (eb_zero (ee_next (n := 4) rfl (ee_pure dn_int) (by omega) (by omega))) (fun _ => ep_imp (ep_app (d := enc (.leaf [])) (j := 3) rfl (dn_str.is empty_enc) (by rw [List.length_map]; omega)) fun ρ' ds' h => ⟨ρ', .refl _, h.1, es0 ++ [.leaf []], ?_, p0.empty, by simp, by simp; omega⟩) fun _ => ep_imp ep_next fun ρ' ds' h => ⟨ρ', .refl _, h.1, es0, h.2, p0.mono (by omega), by omega, by omega⟩) fun ρ1 ds1 h => ?_
    · rw [h.2, List.map_append]
      rfl
    obtain ⟨rfl, es, rfl, pin, m1, m7⟩ := h
    generalize hm : es.length = m at m1 m7
    refine ep_seq (ep_of (es_pure (ds_set (j := 4) (dn_int (i := 2))))) fun ρ1 ds1 h => ?_
    obtain ⟨rfl, rfl⟩ := h
    show DeP a p _ (V (some (.d (.int 2)))) _ _ _
    let I : Nat → Ev → List PyData → Prop := fun i ρ ds => ∃ (es : List Xp) (wr : Nat), ds = es.map enc ∧ wr ≤ 2 ∧ PIn es (7 + i + (2 - wr)) ∧ es.length + i = m ∧ ρ = V (some (.d (.int wr)))
    refine ep_seq (ep_for (js := [5]) (N := fun n => n = m - 1) I (ei_rng1 (S := (· = .int ((m : Int) - 1))) (ee_op (S2 := (· = .int 1)) (ee_lenP (j := 3) rfl) (fun _ _ => ee_pure dn_int) fun x y hx hy => ?_) fun d hd => ?_) ⟨es, 2, rfl, by omega, by simpa using pin, by omega, rfl⟩ fun n i ρ0 ds0 hn hi h => ?_) fun ρ1 ds1 h => ?_
    · subst hx hy
      rw [List.length_map, hm]
      exact ⟨_, rd_sub, rfl⟩
    · subst hd
      exact ⟨m - 1, by congr 1; omega, by omega, rfl⟩
    · obtain ⟨es, wr, rfl, hwr, pin, hlen, rfl⟩ := h
      refine ⟨_, dg_name, ?_⟩
      have hn' : n = m - 1 := hn
      let W : Nat → Option Sl → Option Sl → Option Sl → Option Sl → Ev := fun wr x6 x7 x8 x9 => [some (.r (.ref a)), some (.d (.int 6)), some (.d (.str (Sx L))), some (.r (.ref p)), some (.d (.int wr)), some (.d (.int i)), x6, x7, x8, x9, none]
      show DeP a p _ (W wr none none none none) _ _ _
      refine ep_seq (ep_of (es_set (ee_next (n := (es.length : Int) - 1) rfl (ee_op (S := (· = .int ((es.length : Int) - 1))) (S2 := (· = .int 1)) (ee_lenP (j := 3) rfl) (fun _ _ => ee_pure dn_int) fun x y hx hy => ?_) (by omega) (by omega)))) fun ρ1 ds1 h => ?_
      · subst hx hy
        rw [List.length_map]
        exact ⟨_, rd_sub, rfl⟩
      obtain ⟨⟨d, ⟨g, rfl, g0, g1⟩, rfl⟩, rfl⟩ := h
      obtain ⟨k, rfl⟩ := Int.eq_ofNat_of_zero_le g0
      show DeP a p _ (W wr (some (.d (.int (k : Int)))) none none none) _ _ _
      obtain ⟨A, e1, e2, B, rfl, hA⟩ := split2 es k (by omega)
      have hpl := hlen
      rw [List.length_append, List.length_cons, List.length_cons] at hpl
      have c1 : cnt e1 ≤ 100 := Nat.le_trans (pin.cnt_le (by simp)) (by omega)
      have c2 : cnt e2 ≤ 100 := Nat.le_trans (pin.cnt_le (by simp)) (by omega)
      have er : ∀ (x : Xp) (R : List Xp), ((A ++ x :: R).map enc).eraseIdx k = (A ++ R).map enc := fun x R => by
        rw [List.map_append, List.map_cons, List.eraseIdx_append_of_length_le (by rw [List.length_map, hA]; exact Nat.le_refl _), List.length_map, hA, Nat.sub_self, List.eraseIdx_cons_zero, ← List.map_append]
      have gt : ∀ (x : Xp) (R : List Xp), ((A ++ x :: R).map enc)[k]? = some (enc x) := fun x R => by
        rw [List.map_append, List.map_cons, List.getElem?_append_right (by rw [List.length_map, hA]; exact Nat.le_refl _), List.length_map, hA, Nat.sub_self]
        rfl
      refine ep_seq (ep_pop (j := 3) (k := k) rfl (dn_var (i := 6) rfl) (gt e1 (e2 :: B)) (by rw [List.length_map, List.length_append, List.length_cons, List.length_cons]; omega)) fun ρ1 ds1 h => ?_
      obtain ⟨rfl, rfl⟩ := h
      rw [er]
      show DeP a p _ (W wr (some (.d (.int (k : Int)))) (some (.d (enc e1))) none none) _ _ _
      refine ep_seq (ep_pop (j := 3) (k := k) rfl (dn_var (i := 6) rfl) (gt e2 B) (by rw [List.length_map, List.length_append, List.length_cons]; omega)) fun ρ1 ds1 h => ?_
      obtain ⟨rfl, rfl⟩ := h
      rw [er]
      show DeP a p _ (W wr (some (.d (.int (k : Int)))) (some (.d (enc e1))) (some (.d (enc e2))) none) _ _ _
      refine ep_seq (ep_of (es_set (S := fun d => ∃ j, d = enc (.row j (sp j e1 ++ sp j e2))) (ee_callF (Pre := pRow) (ea_cons (ee_two (ee_next (n := 2) rfl (ee_pure dn_int) (by omega) (by omega))) fun _ _ => ea_pure (da_cons (dn_var (i := 7) rfl) (da_cons (dn_var (i := 8) rfl) da_nil))) fun ds hds => ?_))) fun ρ1 ds1 h => ?_
      · obtain ⟨x, xs, ⟨b, rfl⟩, rfl, rfl⟩ := hds
        exact ⟨_, ⟨b, e1, e2, c1, c2, rfl, rfl⟩, b, rfl⟩
      obtain ⟨⟨d, ⟨j, rfl⟩, rfl⟩, rfl⟩ := h
      have pin1 := pin.row j
      generalize Xp.row j (sp j e1 ++ sp j e2) = x at pin1
      show DeP a p _ (W wr (some (.d (.int (k : Int)))) (some (.d (enc e1))) (some (.d (enc e2))) (some (.d (enc x)))) _ _ _
      refine ep_seq (G := fun ρ' ds' => ds' = (A ++ B).map enc ∧ ∃ (x : Xp) (wr : Nat), wr ≤ 2 ∧ PIn (A ++ x :: B) (7 + (i + 1) + (2 - wr)) ∧ ρ' = W wr (some (.d (.int (k : Int)))) (some (.d (enc e1))) (some (.d (enc e2))) (some (.d (enc x)))) (ep_if (S1 := fun b => b = true → 0 < wr) (eb_and (b := decide ((0 : Int) < (wr : Int))) (dt_test (dn_op (dn_var (i := 4) rfl) dn_int rd_gt)) (fun hb => eb_imp (eb_zero (ee_next (n := 3) rfl (ee_pure dn_int) (by omega) (by omega))) fun _ _ _ => by have := of_decide_eq_true hb; omega) fun _ z => nomatch z) (fun hb => ?_) fun _ => ep_imp ep_next fun ρ' ds' h => ⟨ρ', .refl _, h.2, x, wr, hwr, pin1.mono (by omega), h.1⟩) fun ρ1 ds1 h => ?_
      · have wpos := hb rfl
        refine ep_seq (ep_of (es_pure (ds_set (j := 4) ((dn_op (dn_var (i := 4) rfl) dn_int rd_sub).is (d' := .int ((wr - 1 : Nat) : Int)) (by congr 1; omega))))) fun ρ1 ds1 h => ?_
        obtain ⟨rfl, rfl⟩ := h
        show DeP a p _ (W (wr - 1) (some (.d (.int (k : Int)))) (some (.d (enc e1))) (some (.d (enc e2))) (some (.d (enc x)))) _ _ _
        refine ep_imp (ep_of (es_set (S := fun d => ∃ m, d = enc (.one m x)) (ee_imp (ee_tup (ea_cons (ee_two (ee_pos (ee_next (n := 3) rfl (ee_pure dn_int) (by omega) (by omega)))) fun _ _ => ea_pure (da_cons (dn_var (i := 9) rfl) da_nil)) fun ds hds => ?_) fun d hd => ?_))) fun ρ' ds' h => ?_
        · obtain ⟨y, xs, _, rfl, rfl⟩ := hds
          show 2 ≤ 100000
          decide
        · obtain ⟨ds, ⟨y, xs, ⟨b, rfl⟩, rfl, rfl⟩, rfl⟩ := hd
          refine ⟨!b, ?_⟩
          rw [enc]
          cases b <;> rfl
        · obtain ⟨⟨d, ⟨m', rfl⟩, rfl⟩, rfl⟩ := h
          exact ⟨_, .refl _, rfl, .one m' x, wr - 1, by omega, (pin1.one m').mono (by omega), rfl⟩
      · obtain ⟨rfl, x, wr, hwr, pin2, rfl⟩ := h
        refine ep_imp (ep_ins (j := 3) (k := k) rfl (dn_var (i := 6) rfl) (dn_var (i := 9) rfl) (by omega) (by rw [List.length_map, List.length_append]; omega)) fun ρ' ds' h => ?_
        obtain ⟨rfl, rfl⟩ := h
        refine ⟨V (some (.d (.int wr))), by simp [LeE, W, V], A ++ x :: B, wr, ?_, hwr, pin2, ?_, rfl⟩
        · have t1 : ((A ++ B).map enc).take k = A.map enc := by
            rw [List.map_append, List.take_append_of_le_length (by rw [List.length_map, hA]; exact Nat.le_refl _), List.take_of_length_le (by rw [List.length_map, hA]; exact Nat.le_refl _)]
          have t2 : ((A ++ B).map enc).drop k = B.map enc := by
            rw [List.map_append, List.drop_append_of_le_length (by rw [List.length_map, hA]; exact Nat.le_refl _), List.drop_of_length_le (by rw [List.length_map, hA]; exact Nat.le_refl _)]
            rfl
          rw [t1, t2, List.map_append, List.map_cons, List.append_assoc]
          rfl
        · rw [List.length_append, List.length_cons]
          omega
    · obtain ⟨n, hn, es, wr, rfl, hwr, pin, hlen, rfl⟩ := h
      have hn' : n = m - 1 := hn
      obtain ⟨e, rfl⟩ : ∃ e, es = [e] := by
        match es, hlen with
        | [e], _ => exact ⟨e, rfl⟩
        | [], h => simp at h; omega
        | a :: b :: r, h => simp at h; omega
      have g1 : ∀ ρ' : Ev, ρ'[3]? = some (some (.r (.ref p))) → DeE (fp a p ([e].map enc)) (tOp (rIxL K) (tVar 3) (tC (.int 0))) ρ' (· = enc e) := fun ρ' h => ee_atP (k := 0) h rfl
      refine ep_seq (G := fun ρ' ds' => ρ' = V (some (.d (.int wr))) ∧ ds' = [e].map enc) (ep_if (S1 := fun b => b = true → 0 < wr) (eb_and (b := decide ((0 : Int) < (wr : Int))) (dt_test (dn_op (dn_var (i := 4) rfl) dn_int rd_gt)) (fun hb => eb_imp (eb_zero (ee_next (n := 3) rfl (ee_pure dn_int) (by omega) (by omega))) fun _ _ _ => by have := of_decide_eq_true hb; omega) fun _ z => nomatch z) (fun hb => ?_) fun _ => ep_imp ep_next fun ρ' ds' h => ⟨ρ', .refl _, h.1, h.2⟩) fun ρ1 ds1 h => ?_
      · have wpos := hb rfl
        refine ep_imp (ep_of (G := fun _ => False) (es_ret (ee_imp (ee_tup (ea_cons (ee_two (ee_pos (ee_next (n := 3) rfl (ee_pure dn_int) (by omega) (by omega)))) fun _ _ => ea_cons (g1 _ rfl) fun _ _ => ea_pure da_nil) fun ds hds => ?_) fun d hd => ?_))) fun ρ' ds' h => h.1.elim
        · obtain ⟨y, xs, _, ⟨x2, xs2, _, rfl, rfl⟩, rfl⟩ := hds
          show 2 ≤ 100000
          decide
        · obtain ⟨ds, ⟨y, xs, ⟨b, rfl⟩, ⟨x2, xs2, rfl, rfl, rfl⟩, rfl⟩, rfl⟩ := hd
          refine ⟨.one (!b) e, ?_, (PIn.one (A := []) (B := []) (!b) pin).good (by omega)⟩
          rw [enc]
          cases b <;> rfl
      · obtain ⟨rfl, rfl⟩ := h
        refine ep_imp (ep_of (G := fun _ => False) (es_ret (ee_imp (g1 _ rfl) fun d hd => ⟨e, hd, pin.good (by omega)⟩))) fun ρ' ds' h => h.1.elim
end
end Nd
set_option Elab.async false
set_option linter.all false
set_option maxRecDepth 100000
set_option maxHeartbeats 4000000
namespace Nd
open PySem PySem.Spec PyProof.Rows L2
open Evl (Ex Ex.refl Ex.trans Ex.new)
abbrev s__law_tables : Stmt := topS 47
theorem sc__law_tables : FnScope ["_law_expression_here", "_law_shift", "_law_first", "_law_last", "_law_pairs_here", "_law_empty", "_law_part", "_law_places", "_law_one", "_law_ahead", "_law_behind_here", "_law_own", "_law_none", "_law_other"] ["_law_expression_here", "_law_shift"] (defScope s__law_tables) := ⟨rfl, rfl, rfl, by decide +kernel, rfl, by decide +kernel, by decide +kernel⟩
theorem bd__law_tables (kV doc pm : Value) (an : Option Addr) (cdv ct : Value) (us : List Value) (hl : us.length = (["_law_expression_here", "_law_shift"] : List Str).length) : bindArgs (PySem.W.fnOf "_law_tables" "_law_tables" (defArgs s__law_tables) (defBody s__law_tables) (defScope s__law_tables) .none kV doc pm an cdv ct) ⟨us, []⟩ = pure ((["_law_expression_here", "_law_shift"] : List Str).zip us) :=
  match us, hl with | [_, _], _ => rfl
theorem u65 {k : Nat} {A : Around} (r : Room k A) : A.units + 65 < cLine := by have := r.un; omega
theorem shaped_pr (q : Int × Int) : SeqAt.shaped (pr q) = true := by rfl
theorem canP : ∀ l : List (Int × Int), PyData.canLayAll0 (l.map pr) = true
  | [] => rfl
  | q :: l => by rw [List.map_cons, PyData.canLayAll0, canP l]; rfl
theorem depth_prs : ∀ l : List (Int × Int), PyData.depthAll (l.map pr) ≤ 1
  | [] => by simp [PyData.depthAll]
  | q :: l => by
    have := depth_prs l
    rw [List.map_cons]
    simp only [PyData.depthAll, pr, PyData.depth]
    omega
theorem depth_dP (l : List (Int × Int)) : PyData.depth (dP l) ≤ 64 := by
  have := depth_prs l
  unfold dP
  rw [PyData.depth]
  omega
theorem shaped_dP (l : List (Int × Int)) : SeqAt.shaped (dP l) = true := by
  unfold SeqAt.shaped
  rw [Bool.and_eq_true]
  refine ⟨?_, decide_eq_true (depth_dP l)⟩
  unfold dP
  rw [PyData.canLay0]
  exact canP l
theorem eqv_pr (p q : Int × Int) : PyData.eqv (pr p) (pr q) = decide (p = q) := by
  unfold pr
  simp only [PyData.eqv, PyData.eqvAll, Bool.and_true]
  by_cases h : p = q
  · subst h; simp
  · rw [decide_eq_false h]
    by_cases h1 : p.1 = q.1
    · have h2 : p.2 ≠ q.2 := fun z => h (Prod.ext h1 z)
      simp [h1, h2]
    · simp [h1]
theorem anyP {l : List (Int × Int)} {q : Int × Int} : ((l.map pr).any fun z => PyData.eqv z (pr q)) = decide (q ∈ l) := by
  rw [List.any_map]
  induction l with
  | nil => rfl
  | cons a r ih =>
    rw [List.any_cons, ih]
    show (PyData.eqv (pr a) (pr q) || _) = _
    rw [eqv_pr]
    by_cases h : a = q
    · subst h; simp
    · rw [decide_eq_false h, Bool.false_or]
      have h' : ¬ q = a := fun z => h z.symm
      simp [h']
section
variable {K : PySem.W.Frag} {ρ : Ev} {ta tb te : TE}
theorem rd_inP {l : List (Int × Int)} {q : Int × Int} : R2D (rInD K) (pr q) (dP l) (.bool (decide (q ∈ l))) := by
  have h := rd_inD (K := K) (shaped_pr q) (shaped_dP l)
  rw [anyP] at h
  exact h
theorem rd_notInP {l : List (Int × Int)} {q : Int × Int} : R2D (rNotInD K) (pr q) (dP l) (.bool (!decide (q ∈ l))) := by
  have h := rd_notInD (K := K) (shaped_pr q) (shaped_dP l)
  rw [anyP] at h
  exact h
theorem dn_pr {a b : Int} (h1 : Den ta ρ (.int a)) (h2 : Den tb ρ (.int b)) : Den (tTup (tCons ta (tCons tb tNil))) ρ (pr (a, b)) := dn_tup (da_cons h1 (da_cons h2 da_nil)) (by show 2 ≤ 100000; decide)
end
def lgD (h : LG) : PyData := .list [dI h.F, dI h.L, dP h.P, .bool h.b]
section
variable {P : Program} {w : World} {K : PySem.W.Frag} {mg : Str → Option Value} {base : Heap} {aR aS C fI : Addr}
def pLt (n : Nat) (ds : List PyData) (d : PyData) : Prop := ∃ (e : Xp) (k : Int), dp e < n ∧ Ok e ∧ 0 ≤ k ∧ k + (lt e).length ≤ 1000 ∧ ds = [enc e, .int k] ∧ d = lgD (lga e k)
theorem cl__law_tables (T : Tx K mg aR aS) : ∀ n, Cl P w K mg base (n + 3) "_law_tables" (SpF (pLt n))
  | 0 => cl_none T.d__law_tables bd__law_tables (no_F (by rintro ds d ⟨e, k, h, _⟩; omega))
  | n + 1 => by
    have c__law_tables := cl__law_tables T n
    have c__law_letters := cl__law_letters (P := P) (w := w) (base := base) T n
    refine mk_cl T.d__law_tables sc__law_tables bd__law_tables (len_F (by rintro ds d ⟨e, k, _, _, _, _, rfl, _⟩; rfl)) (fun f cdv A outer s H vs Q E hr h => ?_)
    refine ⟨_, (pss_cons (ps_if (pt_val (pe_callB (k_isi K) (by rfl) T.n_isinstance (by decide +kernel) (pa_cons (pv 0) (pa_cons (pe_bltn (v := .ty "str") (by rfl) T.n_str (by decide +kernel) rfl) pa_nil)))) (pss_cons (ps_set (i := 7) sc__law_tables.nd rfl (Or.inl rfl) (pe_listRg rfl (by rfl) T.n_list (prg_2 (by rfl) T.n_range (pv 1) (pe_op op_add (pv 1) (pe_callB call_len_str (by rfl) T.n_len PySem.boot_len (pa_cons (pv 0) pa_nil)))))) (pss_one (ps_ret (pe_lst (pa_cons (pv 7) (pa_cons (pv 7) (pa_cons (pe_lst pa_nil) (pa_cons (pe_cmpR op_eq (pv 0) pe_str (nomark _)) pa_nil)))))))) pss_nil) (pss_cons (ps_if (pt_cmpR (k_in K) (pe_ix (k_ixT K) (pv 0) pe_int (fun _ _ => rfl)) (pe_lst (pa_cons pe_str (pa_cons pe_str pa_nil))) (by rfl)) (pss_cons (ps_asg (pe_cl c__law_tables hr (by first | decide | omega) (by rfl) (pa_cons (pe_ix (k_ixT K) (pv 0) pe_int (fun _ _ => rfl)) (pa_cons (pv 1) pa_nil))) (k_pgL K (n := 4) rfl (pgs_cons (pg_name (i := 2) sc__law_tables.nd rfl (Or.inl rfl)) (pgs_cons (pg_name (i := 3) sc__law_tables.nd rfl (Or.inl rfl)) (pgs_cons (pg_name (i := 4) sc__law_tables.nd rfl (Or.inr rfl)) (pgs_cons (pg_name (i := 5) sc__law_tables.nd rfl (Or.inl rfl)) pgs_nil)))))) (pss_cons (ps_if (pt_cmpR op_eq (pe_ix (k_ixT K) (pv 0) pe_int (fun _ _ => rfl)) pe_str (nomark _)) (pss_one (ps_for PassesOwn.never rfl (k_piL K (pv 3)) (pg_name (i := 8) sc__law_tables.nd rfl (Or.inr rfl)) (pss_one (ps_set (i := 4) sc__law_tables.nd rfl (Or.inr rfl) (pe_op op_cat (pv 4) (pe_lc (own := [("_law_other", 13)]) rfl sc__law_tables.nd (k_piL K (pv 2)) (blkOk_by (N := ["_law_expression_here", "_law_shift", "_law_first", "_law_last", "_law_pairs_here", "_law_empty", "_law_part", "_law_places", "_law_one", "_law_ahead", "_law_behind_here", "_law_own", "_law_none", "_law_other"]) (sc := defScope s__law_tables) (own := [("_law_other", 13)]) (by decide +kernel)) (fun _ _ _ _ _ => (pg_name (i := 13) sc__law_tables.nd rfl (Or.inl rfl))) (fun _ _ _ _ _ => (pts_one (pt_cmpR (k_notInD K (u65 hr)) (pe_tup (pa_cons (pv 8) (pa_cons (pv 13) pa_nil))) (pv 4) (by rfl)))) (fun _ _ _ _ _ => (pe_tup (pa_cons (pv 8) (pa_cons (pv 13) pa_nil)))))))))) pss_nil) (pss_one (ps_ret (pe_lst (pa_cons (pv 2) (pa_cons (pv 3) (pa_cons (pv 4) (pa_cons pe_bl pa_nil))))))))) pss_nil) (pss_cons (ps_set (i := 2) sc__law_tables.nd rfl (Or.inl rfl) (pe_lst pa_nil)) (pss_cons (ps_set (i := 3) sc__law_tables.nd rfl (Or.inl rfl) (pe_lst pa_nil)) (pss_cons (ps_set (i := 4) sc__law_tables.nd rfl (Or.inr rfl) (pe_lst pa_nil)) (pss_cons (ps_set (i := 5) sc__law_tables.nd rfl (Or.inl rfl) (pe_cmpR op_eq (pe_ix (k_ixT K) (pv 0) pe_int (fun _ _ => rfl)) pe_str (nomark _))) (pss_cons (ps_for PassesOwn.never rfl (k_piT K (pe_ix (k_ixT K) (pv 0) pe_int (fun _ _ => rfl))) (pg_name (i := 6) sc__law_tables.nd rfl (Or.inl rfl)) (pss_cons (ps_asg (pe_cl c__law_tables hr (by first | decide | omega) (by rfl) (pa_cons (pv 6) (pa_cons (pv 1) pa_nil))) (k_pgL K (n := 4) rfl (pgs_cons (pg_name (i := 9) sc__law_tables.nd rfl (Or.inl rfl)) (pgs_cons (pg_name (i := 10) sc__law_tables.nd rfl (Or.inl rfl)) (pgs_cons (pg_name (i := 11) sc__law_tables.nd rfl (Or.inl rfl)) (pgs_cons (pg_name (i := 12) sc__law_tables.nd rfl (Or.inl rfl)) pgs_nil)))))) (pss_cons (ps_set (i := 1) sc__law_tables.nd rfl (Or.inl rfl) (pe_op op_add (pv 1) (pe_callB call_len_str (by rfl) T.n_len PySem.boot_len (pa_cons (pe_cl c__law_letters hr (by first | decide | omega) (by rfl) (pa_cons (pv 6) pa_nil)) pa_nil)))) (pss_cons (ps_set (i := 4) sc__law_tables.nd rfl (Or.inr rfl) (pe_op op_cat (pv 4) (pv 11))) (pss_one (ps_if (pt_cmpR op_eq (pe_ix (k_ixT K) (pv 0) pe_int (fun _ _ => rfl)) pe_str (nomark _)) (pss_cons (ps_set (i := 2) sc__law_tables.nd rfl (Or.inl rfl) (pe_op op_cat (pv 2) (pv 9))) (pss_cons (ps_set (i := 3) sc__law_tables.nd rfl (Or.inl rfl) (pe_op op_cat (pv 3) (pv 10))) (pss_one (ps_set (i := 5) sc__law_tables.nd rfl (Or.inl rfl) (pe_or (pv 5) (pe_one (pv 12))))))) (pss_cons (ps_for PassesOwn.never rfl (k_piL K (pv 3)) (pg_name (i := 8) sc__law_tables.nd rfl (Or.inr rfl)) (pss_one (ps_set (i := 4) sc__law_tables.nd rfl (Or.inr rfl) (pe_op op_cat (pv 4) (pe_lc (own := [("_law_other", 13)]) rfl sc__law_tables.nd (k_piL K (pv 9)) (blkOk_by (N := ["_law_expression_here", "_law_shift", "_law_first", "_law_last", "_law_pairs_here", "_law_empty", "_law_part", "_law_places", "_law_one", "_law_ahead", "_law_behind_here", "_law_own", "_law_none", "_law_other"]) (sc := defScope s__law_tables) (own := [("_law_other", 13)]) (by decide +kernel)) (fun _ _ _ _ _ => (pg_name (i := 13) sc__law_tables.nd rfl (Or.inl rfl))) (fun _ _ _ _ _ => pts_nil) (fun _ _ _ _ _ => (pe_tup (pa_cons (pv 8) (pa_cons (pv 13) pa_nil))))))))) (pss_cons (ps_if (pt_val (pv 5)) (pss_one (ps_set (i := 2) sc__law_tables.nd rfl (Or.inl rfl) (pe_op op_cat (pv 2) (pv 9)))) pss_nil) (pss_cons (ps_if (pt_val (pv 12)) (pss_one (ps_set (i := 3) sc__law_tables.nd rfl (Or.inl rfl) (pe_op op_cat (pv 3) (pv 10)))) (pss_one (ps_set (i := 3) sc__law_tables.nd rfl (Or.inl rfl) (pv 10)))) (pss_one (ps_set (i := 5) sc__law_tables.nd rfl (Or.inl rfl) (pe_and (pv 5) (pe_one (pv 12)))))))))))))) (pss_one (ps_ret (pe_lst (pa_cons (pv 2) (pa_cons (pv 3) (pa_cons (pv 4) (pa_cons (pv 5) pa_nil)))))))))))))), ?_⟩
    refine run_F h fun ds d pre => ?_
    obtain ⟨e, k, hd, ok, k0, k1, rfl, rfl⟩ := pre
    have v0 : (st0 ["_law_expression_here", "_law_shift", "_law_first", "_law_last", "_law_pairs_here", "_law_empty", "_law_part", "_law_places", "_law_one", "_law_ahead", "_law_behind_here", "_law_own", "_law_none", "_law_other"] [enc e, .int k])[0]? = some (some (.d (enc e))) := rfl
    have v1 : (st0 ["_law_expression_here", "_law_shift", "_law_first", "_law_last", "_law_pairs_here", "_law_empty", "_law_part", "_law_places", "_law_one", "_law_ahead", "_law_behind_here", "_law_own", "_law_none", "_law_other"] [enc e, .int k])[1]? = some (some (.d (.int k))) := rfl
    have okl := ok.l
    have okc := ok.c
    by_cases hl : ∃ l, e = .leaf l
    · obtain ⟨l, rfl⟩ := hl
      have hll : l.length ≤ 10 := okl
      have k1' : k + l.length ≤ 1000 := k1
      refine ds_seqR (ds_ifT (dt_B (dn_isS (dn_var v0))) (ds_seq (ds_set (d := dI (rg k l.length)) ((dn_listRg (a := k) (b := k + l.length) (dn_var v1) (dn_op (dn_var v1) ((dn_cb (da_cons (dn_var v0) da_nil) (rc_lenS (by rw [len_Sx]; omega))).is (by rw [len_Sx])) rd_add) ⟨k0, by omega, by omega, by omega⟩).is ?_)) (ds_ret ?_)))
      · have : (k + (l.length : Int) - k).toNat = l.length := by omega
        rw [this]
        rfl
      · rw [lga]
        refine dn_lst (da_cons (dn_var (i := 7) rfl) (da_cons (dn_var (i := 7) rfl) (da_cons dn_nilP (da_cons ((dn_op (dn_var (i := 0) rfl) dn_str rd_eqS).is ?_) da_nil)))) (by show 4 ≤ 100000; decide)
        rw [empty_is]
        congr 1
        cases l with
        | nil => rfl
        | cons a r => exact decide_eq_false fun z => nomatch (Sx_inj.mp z)
    · obtain ⟨hl', hS, hT⟩ := not_leaf hl
      refine ds_seq (ds_ifF (dt_B ((dn_isS (dn_var v0)).is (by rw [hS]))) ds_next) ?_
      cases e with
      | leaf l => exact absurd rfl (hl' l)
      | one m e =>
        obtain ⟨ok', hd'⟩ := ok.parts (p := e) (by simp [parts])
        obtain ⟨bF, bL, bP⟩ := lga_b ok' k
        refine ds_seqR (ds_ifT (dt_test (dn_singleL (dn_var v0) hl')) ?_)
        refine ds_seq (ds_asg (dn_call (Pre := pLt n) (da_cons (dn_ixT (z := enc e) ((dn_var v0).is (by rw [enc])) rfl) (da_cons (dn_var v1) da_nil)) ⟨e, k, by omega, ok', k0, k1, rfl, rfl⟩) (dg_lst (dgs_cons dg_name (dgs_cons dg_name (dgs_cons dg_name (dgs_cons dg_name dgs_nil)))) rfl)) ?_
        generalize hh : lga e k = g at *
        let I : Nat → Ev := fun i => [some (.d (enc (.one m e))), some (.d (.int k)), some (.d (dI g.F)), some (.d (dI g.L)), some (.d (dP ((g.L.take i).foldl (addN g.F) g.P))), some (.d (.bool g.b)), none, none, none, none, none, none, none, none]
        refine ds_seq (ρ1 := [some (.d (enc (.one m e))), some (.d (.int k)), some (.d (dI g.F)), some (.d (dI g.L)), some (.d (dP (if m then g.L.foldl (addN g.F) g.P else g.P))), some (.d (.bool g.b)), none, none, none, none, none, none, none, none]) (ds_if (c := m) (dt_test ((dn_op (dn_ixT ((dn_var (i := 0) rfl).is (d' := .tuple [.str (nmO m), enc e]) (by rw [enc])) rfl) dn_str rd_eqS).is (by rw [nmO_many]))) (fun hm => ?_) fun hm => ?_) ?_
        · subst hm
          refine ds_le (ρ1 := I (g.L.map PyData.int).length) ?_ ?_
          · show DenS _ (I 0) _
            refine ds_forX I (js := [8]) (di_list (dn_var (i := 3) rfl)) fun i d hdi => ?_
            have hi : i < g.L.length := by
              have := (List.getElem?_eq_some_iff.mp hdi).1
              simpa using this
            have hg : g.L[i]? = some g.L[i] := List.getElem?_eq_getElem hi
            rw [List.getElem?_map, hg] at hdi
            obtain rfl := (Option.some.inj hdi).symm
            generalize hP : (g.L.take i).foldl (addN g.F) g.P = P
            have hI : I (i + 1) = [some (.d (enc (.one true e))), some (.d (.int k)), some (.d (dI g.F)), some (.d (dI g.L)), some (.d (dP (addN g.F P g.L[i]))), some (.d (.bool g.b)), none, none, none, none, none, none, none, none] := by
              show [_, _, _, _, some (Sl.d (dP ((g.L.take (i + 1)).foldl (addN g.F) g.P))), _, _, _, _, _, _, _, _, _] = _
              rw [take_succ_get hg, List.foldl_append, hP]
              rfl
            have hIi : I i = [some (.d (enc (.one true e))), some (.d (.int k)), some (.d (dI g.F)), some (.d (dI g.L)), some (.d (dP P)), some (.d (.bool g.b)), none, none, none, none, none, none, none, none] := by
              show [_, _, _, _, some (Sl.d (dP ((g.L.take i).foldl (addN g.F) g.P))), _, _, _, _, _, _, _, _, _] = _
              rw [hP]
            refine ⟨(I i).set 8 (some (.d (.int g.L[i]))), dg_name, ?_⟩
            rw [hI, hIi]
            have lP : P.length ≤ 4000 := by
              have h1 := len_addF (f := g.F) (g.L.take i) g.P
              rw [hP] at h1
              have h2 : (g.L.take i).length ≤ 10 := by rw [List.length_take]; omega
              have h3 := Nat.mul_le_mul h2 bF
              omega
            have lF := List.length_filter_le (fun b => !decide ((g.L[i], b) ∈ P)) g.F
            refine ds_le (ds_set (d := dP (addN g.F P g.L[i])) (dn_catP (b := (g.F.filter fun b => !decide ((g.L[i], b) ∈ P)).map fun b => (g.L[i], b)) (dn_var (i := 4) rfl) ?_ (by rw [List.length_map]; omega))) (by simp [LeE])
            unfold dP
            rw [List.map_map]
            refine dn_lc g.F .int (fun b => !decide ((g.L[i], b) ∈ P)) (fun b => pr (g.L[i], b)) (fun b => [some (.d (enc (.one true e))), some (.d (.int k)), some (.d (dI g.F)), some (.d (dI g.L)), some (.d (dP P)), some (.d (.bool g.b)), none, none, some (.d (.int g.L[i])), none, none, none, none, some (.d (.int b))])
              (di_list (dn_var (i := 2) rfl)) (fun b hb => dg_name) (fun b hb => dt_test (dn_op (dn_pr (dn_var (i := 8) rfl) (dn_var (i := 13) rfl)) (dn_var (i := 4) rfl) rd_notInP)) (fun b hb _ => dn_pr (dn_var (i := 8) rfl) (dn_var (i := 13) rfl)) (by omega)
          · show LeE (I (g.L.map PyData.int).length) _
            have : (g.L.take (g.L.map PyData.int).length) = g.L := by rw [List.length_map, List.take_length]
            simp only [I, this]
            simp [LeE]
        · subst hm
          exact ds_le ds_next (by simp [LeE, st0, lgD])
        · rw [lga, hh]
          exact ds_ret (dn_lst (da_cons (dn_var (i := 2) rfl) (da_cons (dn_var (i := 3) rfl) (da_cons (dn_var (i := 4) rfl) (da_cons dn_bl da_nil)))) (by show 4 ≤ 100000; decide))
      | row j ps =>
        have hv := (dn_var v0).is (enc_row j ps)
        refine ds_seq (ds_ifF (dt_test (dn_singleL (dn_var v0) hl')) ds_next) ?_
        refine ds_seq (ds_set (d := dI []) dn_nilI) ?_
        refine ds_seq (ds_set (d := dI []) dn_nilI) ?_
        refine ds_seq (ds_set (d := dP []) dn_nilP) ?_
        refine ds_seq (ds_set (d := .bool j) ((dn_op (dn_ixT ((dn_var (i := 0) rfl).is (enc_row j ps)) rfl) dn_str rd_eqS).is (by rw [nmR_join]))) ?_
        let st : Nat → LG × Int := fun i => lgaL j (ps.take i) (⟨[], [], [], j⟩, k)
        let ev : LG × Int → Ev := fun s => [some (.d (enc (.row j ps))), some (.d (.int s.2)), some (.d (dI s.1.F)), some (.d (dI s.1.L)), some (.d (dP s.1.P)), some (.d (.bool s.1.b)), none, none, none, none, none, none, none, none]
        let I : Nat → Ev := fun i => ev (st i)
        have hlen : ps.length ≤ 100 := ok.len
        refine ds_seq (ρ1 := I (ps.map enc).length) ?_ ?_
        · show DenS _ (I 0) _
          refine ds_forX I (js := [6]) (di_tup (dn_ixT ((dn_var (i := 0) rfl).is (enc_row j ps)) rfl)) fun i d hdi => ?_
          have hi : i < ps.length := by
            have := (List.getElem?_eq_some_iff.mp hdi).1
            simpa using this
          have hg : ps[i]? = some ps[i] := List.getElem?_eq_getElem hi
          rw [List.getElem?_map, hg] at hdi
          obtain rfl := (Option.some.inj hdi).symm
          have mem : ps[i] ∈ ps := List.getElem_mem hi
          generalize hp : ps[i] = q at *
          obtain ⟨ok', hd'⟩ := ok.parts (p := q) mem
          obtain ⟨⟨sF, sL, sP⟩, sat, slt⟩ := lgaS_b ok k i
          have slt2 := (lgaS_b ok k (i + 1)).2.2
          have hst : st (i + 1) = lst1 j (st i) (lga q (st i).2) (lt q).length := by
            show lgaL j (ps.take (i + 1)) _ = _
            rw [take_succ_get hg, lgaL_snoc]
          have hS2 : (st i).2 = k + (lt.ltL (ps.take i)).length := sat
          have hq : (lt.ltL (ps.take i)).length + (lt q).length ≤ (lt.ltL ps).length := by
            have e1 := ltL_app (ps.take (i + 1)) (ps.drop (i + 1))
            rw [List.take_append_drop, take_succ_get hg, ltL_app] at e1
            rw [e1]
            simp [lt.ltL]
          have k2 : k + (lt.ltL ps).length ≤ 1000 := k1
          replace sF : (st i).1.F.length ≤ 10 := sF
          replace sL : (st i).1.L.length ≤ 10 := sL
          replace sP : (st i).1.P.length ≤ 3000 := sP
          have hI1 : I (i + 1) = ev (lst1 j (st i) (lga q (st i).2) (lt q).length) := by
            show ev (st (i + 1)) = _
            rw [hst]
          have hI0 : I i = ev (st i) := rfl
          rw [hI1, hI0]
          generalize st i = s at *
          obtain ⟨bF, bL, bP⟩ := lga_b ok' s.2
          have qlen := ok'.l
          refine ⟨(ev s).set 6 (some (.d (enc q))), dg_name, ?_⟩
          refine ds_seq (ds_asg (dn_call (Pre := pLt n) (da_cons (dn_var (i := 6) rfl) (da_cons (dn_var (i := 1) rfl) da_nil)) ⟨q, s.2, by omega, ok', by omega, by omega, rfl, rfl⟩) (dg_lst (dgs_cons dg_name (dgs_cons dg_name (dgs_cons dg_name (dgs_cons dg_name dgs_nil)))) rfl)) ?_
          generalize hh : lga q s.2 = g at *
          refine ds_seq (ds_set (d := .int (s.2 + (lt q).length)) (dn_op (dn_var (i := 1) rfl) ((dn_cb (da_cons (dn_call (Pre := pLet n) (da_cons (dn_var (i := 6) rfl) da_nil) ⟨q, by omega, ok', rfl, rfl⟩) da_nil) (rc_lenS (by rw [len_Sx]; omega))).is (by rw [len_Sx])) rd_add)) ?_
          refine ds_seq (ds_set (d := dP (s.1.P ++ g.P)) (dn_catP (dn_var (i := 4) rfl) (dn_var (i := 11) rfl) (by omega))) ?_
          let E : List Int → List Int → List (Int × Int) → Bool → Ev := fun F L P b => [some (.d (enc (.row j ps))), some (.d (.int (s.2 + (lt q).length))), some (.d (dI F)), some (.d (dI L)), some (.d (dP P)), some (.d (.bool b)), some (.d (enc q)), none, none, some (.d (dI g.F)), some (.d (dI g.L)), some (.d (dP g.P)), some (.d (.bool g.b)), none]
          show DenS _ (E s.1.F s.1.L (s.1.P ++ g.P) s.1.b) _
          have hE : ∀ F L P b, LeE (E F L P b) (ev (⟨F, L, P, b⟩, s.2 + (lt q).length)) := fun F L P b => by simp [LeE, E, ev]
          refine ds_if (c := !j) (dt_test ((dn_op (dn_ixT ((dn_var (i := 0) rfl).is (enc_row j ps)) rfl) dn_str rd_eqS).is (by rw [nmR_or]))) (fun hj => ?_) fun hj => ?_
          · have hj : j = false := by simpa using hj
            have hl1 : lst1 j s g (lt q).length = (⟨s.1.F ++ g.F, s.1.L ++ g.L, s.1.P ++ g.P, s.1.b || g.b⟩, s.2 + (lt q).length) := by unfold lst1; rw [hj]; rfl
            rw [hl1]
            refine ds_seq (ds_set (d := dI (s.1.F ++ g.F)) (dn_catI (dn_var (i := 2) rfl) (dn_var (i := 9) rfl) (by omega))) ?_
            refine ds_seq (ds_set (d := dI (s.1.L ++ g.L)) (dn_catI (dn_var (i := 3) rfl) (dn_var (i := 10) rfl) (by omega))) ?_
            exact ds_le (ds_set (dn_orV (dn_var (i := 5) rfl) fun _ => dn_var (i := 12) rfl)) (hE _ _ _ _)
          · have hj : j = true := by simpa using hj
            have hl1 : lst1 j s g (lt q).length = (⟨if s.1.b then s.1.F ++ g.F else s.1.F, if g.b then s.1.L ++ g.L else g.L, s.1.P ++ g.P ++ cross s.1.L g.F, s.1.b && g.b⟩, s.2 + (lt q).length) := by unfold lst1; rw [hj]; rfl
            rw [hl1]
            let I2 : Nat → Ev := fun i => E s.1.F s.1.L (s.1.P ++ g.P ++ cross (s.1.L.take i) g.F) s.1.b
            have hI20 : E s.1.F s.1.L (s.1.P ++ g.P) s.1.b = I2 0 := by simp [I2, cross]
            refine ds_seq (ρ1 := I2 (s.1.L.map PyData.int).length) ?_ ?_
            · rw [hI20]
              refine ds_forX I2 (js := [8]) (di_list (dn_var (i := 3) rfl)) fun i2 d2 hdi2 => ?_
              have hi2 : i2 < s.1.L.length := by
                have := (List.getElem?_eq_some_iff.mp hdi2).1
                simpa using this
              have hg2 : s.1.L[i2]? = some s.1.L[i2] := List.getElem?_eq_getElem hi2
              rw [List.getElem?_map, hg2] at hdi2
              obtain rfl := (Option.some.inj hdi2).symm
              have hcr : cross (s.1.L.take (i2 + 1)) g.F = cross (s.1.L.take i2) g.F ++ g.F.map fun b => (s.1.L[i2], b) := by
                unfold cross
                rw [take_succ_get hg2, List.flatMap_append]
                simp
              have hI2 : I2 (i2 + 1) = E s.1.F s.1.L (s.1.P ++ g.P ++ cross (s.1.L.take i2) g.F ++ g.F.map fun b => (s.1.L[i2], b)) s.1.b := by
                show E _ _ (s.1.P ++ g.P ++ cross (s.1.L.take (i2 + 1)) g.F) _ = _
                rw [hcr, ← List.append_assoc]
              refine ⟨(I2 i2).set 8 (some (.d (.int s.1.L[i2]))), dg_name, ?_⟩
              rw [hI2]
              have hx := cross_le (l := s.1.L.take i2) (f := g.F) (by rw [List.length_take]; omega) bF
              refine ds_le (ds_set (d := dP (s.1.P ++ g.P ++ cross (s.1.L.take i2) g.F ++ g.F.map fun b => (s.1.L[i2], b))) (dn_catP (dn_var (i := 4) rfl) ?_ (by simp only [List.length_append, List.length_map]; omega))) (by simp [LeE, E, I2])
              unfold dP
              rw [List.map_map]
              exact dn_lcY g.F .int (fun b => pr (s.1.L[i2], b)) (fun b => [some (.d (enc (.row j ps))), some (.d (.int (s.2 + (lt q).length))), some (.d (dI s.1.F)), some (.d (dI s.1.L)), some (.d (dP (s.1.P ++ g.P ++ cross (s.1.L.take i2) g.F))), some (.d (.bool s.1.b)), some (.d (enc q)), none, some (.d (.int s.1.L[i2])), some (.d (dI g.F)), some (.d (dI g.L)), some (.d (dP g.P)), some (.d (.bool g.b)), some (.d (.int b))])
                (di_list (dn_var (i := 9) rfl)) (fun b hb => dg_name) (fun b hb => dn_pr (dn_var (i := 8) rfl) (dn_var (i := 13) rfl)) (by omega)
            · have hI2 : I2 (s.1.L.map PyData.int).length = E s.1.F s.1.L (s.1.P ++ g.P ++ cross s.1.L g.F) s.1.b := by
                show E _ _ (_ ++ cross (s.1.L.take _) _) _ = _
                rw [List.length_map, List.take_length]
              rw [hI2]
              generalize s.1.P ++ g.P ++ cross s.1.L g.F = P
              refine ds_seq (ρ1 := E (if s.1.b then s.1.F ++ g.F else s.1.F) s.1.L P s.1.b) (ds_if (c := s.1.b) (dt_B (dn_var (i := 5) rfl)) (fun hb => ?_) fun hb => ?_) ?_
              · rw [if_pos hb]
                exact ds_set (d := dI (s.1.F ++ g.F)) (dn_catI (dn_var (i := 2) rfl) (dn_var (i := 9) rfl) (by omega))
              · rw [if_neg (by rw [hb]; exact Bool.false_ne_true)]
                exact ds_next
              generalize (if s.1.b then s.1.F ++ g.F else s.1.F) = F
              refine ds_seq (ρ1 := E F (if g.b then s.1.L ++ g.L else g.L) P s.1.b) (ds_if (c := g.b) (dt_B (dn_var (i := 12) rfl)) (fun hb => ?_) fun hb => ?_) ?_
              · rw [if_pos hb]
                exact ds_set (d := dI (s.1.L ++ g.L)) (dn_catI (dn_var (i := 3) rfl) (dn_var (i := 10) rfl) (by omega))
              · rw [if_neg (by rw [hb]; exact Bool.false_ne_true)]
                exact ds_set (d := dI g.L) (dn_var (i := 10) rfl)
              exact ds_le (ds_set (dn_andV (dn_var (i := 5) rfl) fun _ => dn_var (i := 12) rfl)) (hE _ _ _ _)
        · have hI : I (ps.map enc).length = ev (lgaL j ps (⟨[], [], [], j⟩, k)) := by
            show ev (lgaL j (ps.take _) _) = _
            rw [List.length_map, List.take_length]
          rw [hI, lga]
          exact ds_ret (dn_lst (da_cons (dn_var (i := 2) rfl) (da_cons (dn_var (i := 3) rfl) (da_cons (dn_var (i := 4) rfl) (da_cons (dn_var (i := 5) rfl) da_nil)))) (by show 4 ≤ 100000; decide))
end
end Nd
set_option Elab.async false
set_option linter.all false
set_option maxRecDepth 100000
set_option maxHeartbeats 4000000
namespace Nd
open PySem PySem.Spec PyProof.Rows L2
open Evl (Ex Ex.refl Ex.trans Ex.new)
abbrev s__law_follow : Stmt := topS 51
theorem sc__law_follow : FnScope ["_law_tables_here", "_law_many", "_law_place", "_law_other"] ["_law_tables_here", "_law_many"] (defScope s__law_follow) := ⟨rfl, rfl, rfl, by decide +kernel, rfl, by decide +kernel, by decide +kernel⟩
theorem bd__law_follow (kV doc pm : Value) (an : Option Addr) (cdv ct : Value) (us : List Value) (hl : us.length = (["_law_tables_here", "_law_many"] : List Str).length) : bindArgs (PySem.W.fnOf "_law_follow" "_law_follow" (defArgs s__law_follow) (defBody s__law_follow) (defScope s__law_follow) .none kV doc pm an cdv ct) ⟨us, []⟩ = pure ((["_law_tables_here", "_law_many"] : List Str).zip us) :=
  match us, hl with | [_, _], _ => rfl
abbrev s__law_pairs : Stmt := topS 52
theorem sc__law_pairs : FnScope ["_law_letters_here", "_law_places", "_law_found", "_law_one", "_law_other"] ["_law_letters_here", "_law_places"] (defScope s__law_pairs) := ⟨rfl, rfl, rfl, by decide +kernel, rfl, by decide +kernel, by decide +kernel⟩
theorem bd__law_pairs (kV doc pm : Value) (an : Option Addr) (cdv ct : Value) (us : List Value) (hl : us.length = (["_law_letters_here", "_law_places"] : List Str).length) : bindArgs (PySem.W.fnOf "_law_pairs" "_law_pairs" (defArgs s__law_pairs) (defBody s__law_pairs) (defScope s__law_pairs) .none kV doc pm an cdv ct) ⟨us, []⟩ = pure ((["_law_letters_here", "_law_places"] : List Str).zip us) :=
  match us, hl with | [_, _], _ => rfl
abbrev s__law_conflicts : Stmt := topS 53
theorem sc__law_conflicts : FnScope ["_law_tables_here", "_law_letters_here", "_law_found", "_law_places", "_law_pair"] ["_law_tables_here", "_law_letters_here"] (defScope s__law_conflicts) := ⟨rfl, rfl, rfl, by decide +kernel, rfl, by decide +kernel, by decide +kernel⟩
theorem bd__law_conflicts (kV doc pm : Value) (an : Option Addr) (cdv ct : Value) (us : List Value) (hl : us.length = (["_law_tables_here", "_law_letters_here"] : List Str).length) : bindArgs (PySem.W.fnOf "_law_conflicts" "_law_conflicts" (defArgs s__law_conflicts) (defBody s__law_conflicts) (defScope s__law_conflicts) .none kV doc pm an cdv ct) ⟨us, []⟩ = pure ((["_law_tables_here", "_law_letters_here"] : List Str).zip us) :=
  match us, hl with | [_, _], _ => rfl
abbrev s__law_walked : Stmt := topS 50
theorem sc__law_walked : FnScope ["_law_stream_here", "_law_tables_here", "_law_letters_here", "_law_most", "_law_word_here", "_law_here", "_law_k", "_law_found", "_law_one", "_law_other"] ["_law_stream_here", "_law_tables_here", "_law_letters_here", "_law_most"] (defScope s__law_walked) := ⟨rfl, rfl, rfl, by decide +kernel, rfl, by decide +kernel, by decide +kernel⟩
theorem bd__law_walked (kV doc pm : Value) (an : Option Addr) (cdv ct : Value) (us : List Value) (hl : us.length = (["_law_stream_here", "_law_tables_here", "_law_letters_here", "_law_most"] : List Str).length) : bindArgs (PySem.W.fnOf "_law_walked" "_law_walked" (defArgs s__law_walked) (defBody s__law_walked) (defScope s__law_walked) .none kV doc pm an cdv ct) ⟨us, []⟩ = pure ((["_law_stream_here", "_law_tables_here", "_law_letters_here", "_law_most"] : List Str).zip us) :=
  match us, hl with | [_, _, _, _], _ => rfl
/-- what follows each place, by the law -/
def lfw (n : Nat) (P : List (Int × Int)) : List (List Int) := (places n).map fun p => (places n).filter fun b => decide ((p, b) ∈ P)
def atL (ls : List Nat) (p : Int) : Nat := ls.getD p.toNat 0
/-- the pairs with the same letter, by the law -/
def lprs (ls : List Nat) (F : List Int) : List (Int × Int) := (srt F).flatMap fun a => ((srt F).filter fun b => decide (a < b) && decide (atL ls a = atL ls b)).map fun b => (a, b)
def lcf (ls : List Nat) (f : List (Int × Int)) (r : List Int) : List (Int × Int) := f ++ (lprs ls r).filter fun q => !decide (q ∈ f)
theorem lprs_len {ls : List Nat} {F : List Int} (h : F.length ≤ 10) : (lprs ls F).length ≤ 100 := by
  have hs : (srt F).length ≤ 10 := by rw [(srt_perm F).length_eq]; exact h
  have : ∀ m : List Int, (m.flatMap fun a => ((srt F).filter fun b => decide (a < b) && decide (atL ls a = atL ls b)).map fun b => (a, b)).length ≤ m.length * (srt F).length := by
    intro m
    induction m with
    | nil => simp
    | cons a r ih =>
      have := List.length_filter_le (fun b => decide (a < b) && decide (atL ls a = atL ls b)) (srt F)
      rw [List.flatMap_cons, List.length_append, List.length_map, List.length_cons, Nat.add_mul]
      omega
  exact Nat.le_trans (this (srt F)) (Nat.mul_le_mul hs hs)
theorem lcf_emp {ls : List Nat} : ∀ (W : List (List Int)) (f : List (Int × Int)), (W.foldl (lcf ls) f).isEmpty = (f.isEmpty && W.all fun r => (lprs ls r).isEmpty)
  | [], f => by simp
  | r :: W, f => by
    rw [List.foldl_cons, lcf_emp W, List.all_cons, ← Bool.and_assoc]
    congr 1
    unfold lcf
    cases f with
    | cons _ _ => simp
    | nil =>
      have e : (lprs ls r).filter (fun q => !decide (q ∈ ([] : List (Int × Int)))) = lprs ls r := List.filter_eq_self.mpr fun q _ => by simp
      rw [e]
      rfl
theorem lcf_len {ls : List Nat} {r : List Int} {f : List (Int × Int)} (h : r.length ≤ 10) : (lcf ls f r).length ≤ f.length + 100 := by
  unfold lcf
  have h1 := lprs_len (ls := ls) h
  have h2 := List.length_filter_le (fun q => !decide (q ∈ f)) (lprs ls r)
  rw [List.length_append]
  omega
section
variable {P : Program} {w : World} {K : PySem.W.Frag} {mg : Str → Option Value} {base : Heap} {aR aS C fI : Addr}
theorem dn_letL {ρ : Ev} {ta tb : TE} {ls : List Nat} {p : Int} (hn : ls.length ≤ 10) (h1 : Den ta ρ (.str (Sx ls))) (h2 : Den tb ρ (.int p)) (h0 : 0 ≤ p) (h : p < ls.length) : Den (tOp rIxS ta tb) ρ (.str (Sx [atL ls p])) := by
  have e := atI_in 0 h0 h
  exact dn_op h1 h2 (rd_ixS (by rw [len_Sx]; omega) e)
theorem ups_places (n : Nat) : ups n = (places n).map PyData.int := by
  unfold ups places
  rw [List.map_map]
  rfl
theorem places_bd {n : Nat} {p : Int} (h : p ∈ places n) : 0 ≤ p ∧ p < n := by
  obtain ⟨i, hi, rfl⟩ := List.mem_map.mp h
  have := List.mem_range.mp hi
  omega
theorem places_len (n : Nat) : (places n).length = n := by simp [places]
def pFol (ds : List PyData) (d : PyData) : Prop := ∃ (h : LG) (n : Nat), n ≤ 10 ∧ ds = [lgD h, .int n] ∧ d = .list ((lfw n h.P).map dI)
theorem cl__law_follow (T : Tx K mg aR aS) : Cl P w K mg base 1 "_law_follow" (SpF pFol) := by
  refine mk_cl T.d__law_follow sc__law_follow bd__law_follow (len_F (by rintro ds d ⟨h, n, _, rfl, _⟩; rfl)) (fun f cdv A outer s H vs Q E hr h => ?_)
  refine ⟨_, (pss_one (ps_ret (pe_lc (own := [("_law_place", 2)]) rfl sc__law_follow.nd (pi_range1 (by rfl) T.n_range (pa_cons (pv 1) pa_nil)) (blkOk_by (N := ["_law_tables_here", "_law_many", "_law_place", "_law_other"]) (sc := defScope s__law_follow) (own := [("_law_place", 2)]) (by decide +kernel)) (fun _ _ _ _ _ => (pg_name (i := 2) sc__law_follow.nd rfl (Or.inr rfl))) (fun _ _ _ _ _ => pts_nil) (fun _ _ _ _ _ => (pe_lc (own := [("_law_other", 3)]) rfl sc__law_follow.nd (pi_range1 (by rfl) T.n_range (pa_cons (pv 1) pa_nil)) (blkOk_by (N := ["_law_tables_here", "_law_many", "_law_place", "_law_other"]) (sc := { kind := .function, names := [(".0", .local), ("_law_place", .cell), ("range", .globalImplicit), ("_law_many", .cell), ("_law_tables_here", .cell)], isGenerator := false, isCoroutine := false }) (own := [("_law_other", 3)]) (by decide +kernel)) (fun _ _ _ _ _ => (pg_name (i := 3) sc__law_follow.nd rfl (Or.inl rfl))) (fun _ _ _ _ _ => (pts_one (pt_cmpR (k_inD K (u65 hr)) (pe_tup (pa_cons (pv 2) (pa_cons (pv 3) pa_nil))) (pe_ix (k_ixL K) (pv 0) pe_int (fun _ _ => rfl)) (by rfl)))) (fun _ _ _ _ _ => (pv 3))))))), ?_⟩
  refine run_F h fun ds d pre => ?_
  obtain ⟨h, n, hn, rfl, rfl⟩ := pre
  have rgn : ∀ ρ : Ev, ρ[1]? = some (some (.d (.int (n : Int)))) → DenI (iRng1 (tCons (tVar 1) tNil)) ρ ((places n).map .int) := fun ρ h => by
    have := di_rng1 (n := (n : Int)) (da_cons (dn_var h) da_nil) (by omega) (by omega)
    rw [Int.toNat_natCast, ups_places] at this
    exact this
  refine ds_ret ?_
  unfold lfw
  rw [List.map_map]
  refine dn_lcY (places n) .int (fun p => dI ((places n).filter fun b => decide ((p, b) ∈ h.P))) (fun p => [some (.d (lgD h)), some (.d (.int n)), some (.d (.int p)), none]) (rgn _ rfl) (fun p hp => dg_name) (fun p hp => ?_) (by rw [places_len]; omega)
  exact dn_lc (places n) .int (fun b => decide ((p, b) ∈ h.P)) .int (fun b => [some (.d (lgD h)), some (.d (.int n)), some (.d (.int p)), some (.d (.int b))]) (rgn _ rfl) (fun b hb => dg_name) (fun b hb => dt_test (dn_op (dn_pr (dn_var (i := 2) rfl) (dn_var (i := 3) rfl)) (dn_ixL (z := dP h.P) (dn_var (i := 0) rfl) rfl) rd_inP)) (fun b hb _ => dn_var (i := 3) rfl) (by rw [places_len]; omega)
def pLp (ds : List PyData) (d : PyData) : Prop := ∃ (ls : List Nat) (F : List Int), ls.length ≤ 10 ∧ F.length ≤ 10 ∧ (∀ p ∈ F, 0 ≤ p ∧ p < ls.length) ∧ ds = [.str (Sx ls), dI F] ∧ d = dP (lprs ls F)
theorem cl__law_pairs (T : Tx K mg aR aS) : Cl P w K mg base 1 "_law_pairs" (SpF pLp) := by
  refine mk_cl T.d__law_pairs sc__law_pairs bd__law_pairs (len_F (by rintro ds d ⟨ls, F, _, _, _, rfl, _⟩; rfl)) (fun f cdv A outer s H vs Q E hr h => ?_)
  refine ⟨_, (pss_cons (ps_set (i := 2) sc__law_pairs.nd rfl (Or.inl rfl) (pe_lst pa_nil)) (pss_cons (ps_for PassesOwn.never rfl (k_piL K (pe_callB (k_sortedI K) (by rfl) T.n_sorted (by decide +kernel) (pa_cons (pv 1) pa_nil))) (pg_name (i := 3) sc__law_pairs.nd rfl (Or.inr rfl)) (pss_one (ps_set (i := 2) sc__law_pairs.nd rfl (Or.inl rfl) (pe_op op_cat (pv 2) (pe_lc (own := [("_law_other", 4)]) rfl sc__law_pairs.nd (k_piL K (pe_callB (k_sortedI K) (by rfl) T.n_sorted (by decide +kernel) (pa_cons (pv 1) pa_nil))) (blkOk_by (N := ["_law_letters_here", "_law_places", "_law_found", "_law_one", "_law_other"]) (sc := defScope s__law_pairs) (own := [("_law_other", 4)]) (by decide +kernel)) (fun _ _ _ _ _ => (pg_name (i := 4) sc__law_pairs.nd rfl (Or.inl rfl))) (fun _ _ _ _ _ => (pts_one (PW.pt (pw_and (pt_cmpR op_lt (pv 3) (pv 4) (nomark _)) (pw_and1 (pt_cmpR op_eq (pe_ix ix_str (pv 0) (pv 3) (fun _ _ => rfl)) (pe_ix ix_str (pv 0) (pv 4) (fun _ _ => rfl)) (nomark _))))))) (fun _ _ _ _ _ => (pe_tup (pa_cons (pv 3) (pa_cons (pv 4) pa_nil))))))))) (pss_one (ps_ret (pv 2))))), ?_⟩
  refine run_F h fun ds d pre => ?_
  obtain ⟨ls, F, hn, hF, hb, rfl, rfl⟩ := pre
  have hs : (srt F).length ≤ 10 := by rw [(srt_perm F).length_eq]; exact hF
  have sb : ∀ p ∈ srt F, 0 ≤ p ∧ p < ls.length := fun p hp => hb p ((srt_perm F).mem_iff.mp hp)
  refine ds_seq (ds_set (d := dP []) dn_nilP) ?_
  let L : Nat → List (Int × Int) := fun i => ((srt F).take i).flatMap fun a => ((srt F).filter fun b => decide (a < b) && decide (atL ls a = atL ls b)).map fun b => (a, b)
  let I : Nat → Ev := fun i => [some (.d (.str (Sx ls))), some (.d (dI F)), some (.d (dP (L i))), none, none]
  have so : ∀ ρ : Ev, ρ[1]? = some (some (.d (dI F))) → DenI (iList K (tCB (rSortedI K) (tCons (tVar 1) tNil))) ρ ((srt F).map .int) := fun ρ h => di_list (dn_cb (da_cons (dn_var h) da_nil) rc_sorted)
  refine ds_seq (ρ1 := I ((srt F).map PyData.int).length) ?_ ?_
  · show DenS _ (I 0) _
    refine ds_forX I (js := [3]) (so _ rfl) fun i d hdi => ?_
    have hi : i < (srt F).length := by
      have := (List.getElem?_eq_some_iff.mp hdi).1
      simpa using this
    have hg : (srt F)[i]? = some (srt F)[i] := List.getElem?_eq_getElem hi
    rw [List.getElem?_map, hg] at hdi
    obtain rfl := (Option.some.inj hdi).symm
    have mem : (srt F)[i] ∈ srt F := List.getElem_mem hi
    generalize (srt F)[i] = a at *
    have hL : L (i + 1) = L i ++ ((srt F).filter fun b => decide (a < b) && decide (atL ls a = atL ls b)).map fun b => (a, b) := by
      show ((srt F).take (i + 1)).flatMap _ = _
      rw [take_succ_get hg, List.flatMap_append]
      simp [L]
    have hLl : (L i).length ≤ 100 := by
      have : ∀ m : List Int, (m.flatMap fun a => ((srt F).filter fun b => decide (a < b) && decide (atL ls a = atL ls b)).map fun b => (a, b)).length ≤ m.length * (srt F).length := by
        intro m
        induction m with
        | nil => simp
        | cons a r ih =>
          have := List.length_filter_le (fun b => decide (a < b) && decide (atL ls a = atL ls b)) (srt F)
          rw [List.flatMap_cons, List.length_append, List.length_map, List.length_cons, Nat.add_mul]
          omega
      have h2 : ((srt F).take i).length ≤ 10 := by rw [List.length_take]; omega
      exact Nat.le_trans (this _) (Nat.mul_le_mul h2 hs)
    have hI : I (i + 1) = [some (.d (.str (Sx ls))), some (.d (dI F)), some (.d (dP (L i ++ ((srt F).filter fun b => decide (a < b) && decide (atL ls a = atL ls b)).map fun b => (a, b)))), none, none] := by
      show [_, _, some (Sl.d (dP (L (i + 1)))), _, _] = _
      rw [hL]
    refine ⟨(I i).set 3 (some (.d (.int a))), dg_name, ?_⟩
    rw [hI]
    have lf := List.length_filter_le (fun b => decide (a < b) && decide (atL ls a = atL ls b)) (srt F)
    refine ds_le (ds_set (d := dP (L i ++ ((srt F).filter fun b => decide (a < b) && decide (atL ls a = atL ls b)).map fun b => (a, b))) (dn_catP (dn_var (i := 2) rfl) ?_ (by rw [List.length_map]; omega))) (by simp [LeE, I])
    unfold dP
    rw [List.map_map]
    have ab := sb a mem
    exact dn_lc (srt F) .int (fun b => decide (a < b) && decide (atL ls a = atL ls b)) (fun b => pr (a, b)) (fun b => [some (.d (.str (Sx ls))), some (.d (dI F)), some (.d (dP (L i))), some (.d (.int a)), some (.d (.int b))]) (so _ rfl) (fun b hb => dg_name)
      (fun b hb => dt_and (dt_test (dn_op (dn_var (i := 3) rfl) (dn_var (i := 4) rfl) rd_lt)) fun _ => dt_test (dn_op (dn_letL hn (dn_var (i := 0) rfl) (dn_var (i := 3) rfl) ab.1 ab.2) (dn_letL hn (dn_var (i := 0) rfl) (dn_var (i := 4) rfl) (sb b hb).1 (sb b hb).2) rd_eqL)) (fun b hb _ => dn_pr (dn_var (i := 3) rfl) (dn_var (i := 4) rfl)) (by omega)
  · refine ds_ret ((dn_var (i := 2) rfl).is ?_)
    show dP (((srt F).take _).flatMap _) = _
    rw [List.length_map, List.take_length]
    rfl
/-- no two places with the same letter, by the law -/
def lnocf (ls : List Nat) (h : LG) : Bool := (lprs ls h.F).isEmpty && (lfw ls.length h.P).all fun r => (lprs ls r).isEmpty
def pLcf (ds : List PyData) (S : PyData → Prop) : Prop := ∃ (ls : List Nat) (h : LG), ls.length ≤ 10 ∧ h.F.length ≤ 10 ∧ (∀ p ∈ h.F, 0 ≤ p ∧ p < ls.length) ∧ ds = [lgD h, .str (Sx ls)] ∧ S = cfS (lnocf ls h)
theorem lfw_bd {n : Nat} {P : List (Int × Int)} {r : List Int} (h : r ∈ lfw n P) : r.length ≤ n ∧ ∀ p ∈ r, 0 ≤ p ∧ p < n := by
  obtain ⟨p, hp, rfl⟩ := List.mem_map.mp h
  refine ⟨?_, fun q hq => places_bd (List.mem_filter.mp hq).1⟩
  have := List.length_filter_le (fun b => decide ((p, b) ∈ P)) (places n)
  rw [places_len] at this
  exact this
theorem cl__law_conflicts (T : Tx K mg aR aS) : Cl P w K mg base 2 "_law_conflicts" (SpX pLcf) := by
  have c__law_pairs := cl__law_pairs (P := P) (w := w) (base := base) T
  have c__law_follow := cl__law_follow (P := P) (w := w) (base := base) T
  refine mk_cl T.d__law_conflicts sc__law_conflicts bd__law_conflicts (len_X (by rintro ds d ⟨ls, h, _, _, _, rfl, _⟩; rfl)) (fun f cdv A outer s H vs Q E hr h => ?_)
  refine ⟨_, (pss_cons (ps_set (i := 2) sc__law_conflicts.nd rfl (Or.inr rfl) (pe_cl c__law_pairs hr (by first | decide | omega) (by rfl) (pa_cons (pv 1) (pa_cons (pe_ix (k_ixL K) (pv 0) pe_int (fun _ _ => rfl)) pa_nil)))) (pss_cons (ps_for PassesOwn.never rfl (k_piL K (pe_cl c__law_follow hr (by first | decide | omega) (by rfl) (pa_cons (pv 0) (pa_cons (pe_callB call_len_str (by rfl) T.n_len PySem.boot_len (pa_cons (pv 1) pa_nil)) pa_nil)))) (pg_name (i := 3) sc__law_conflicts.nd rfl (Or.inl rfl)) (pss_one (ps_set (i := 2) sc__law_conflicts.nd rfl (Or.inr rfl) (pe_op op_cat (pv 2) (pe_lc (own := [("_law_pair", 4)]) rfl sc__law_conflicts.nd (k_piL K (pe_cl c__law_pairs hr (by first | decide | omega) (by rfl) (pa_cons (pv 1) (pa_cons (pv 3) pa_nil)))) (blkOk_by (N := ["_law_tables_here", "_law_letters_here", "_law_found", "_law_places", "_law_pair"]) (sc := defScope s__law_conflicts) (own := [("_law_pair", 4)]) (by decide +kernel)) (fun _ _ _ _ _ => (pg_name (i := 4) sc__law_conflicts.nd rfl (Or.inl rfl))) (fun _ _ _ _ _ => (pts_one (pt_cmpR (k_notInD K (u65 hr)) (pv 4) (pv 2) (by rfl)))) (fun _ _ _ _ _ => (pv 4))))))) (pss_one (ps_ret (pe_callB (k_sortedP K) (by rfl) T.n_sorted (by decide +kernel) (pa_cons (pv 2) pa_nil)))))), ?_⟩
  refine run_X h fun ds S pre => ?_
  obtain ⟨ls, h, hn, hF, hb, rfl, rfl⟩ := pre
  refine dsx_seq (ds_set (d := dP (lprs ls h.F)) (dn_call (Pre := pLp) (da_cons (dn_var (i := 1) rfl) (da_cons (dn_ixL (z := dI h.F) (dn_var (i := 0) rfl) rfl) da_nil)) ⟨ls, h.F, hn, hF, hb, rfl, rfl⟩)) ?_
  let L : Nat → List (Int × Int) := fun i => ((lfw ls.length h.P).take i).foldl (lcf ls) (lprs ls h.F)
  let I : Nat → Ev := fun i => [some (.d (lgD h)), some (.d (.str (Sx ls))), some (.d (dP (L i))), none, none]
  have wl : (lfw ls.length h.P).length ≤ 10 := by
    unfold lfw
    rw [List.length_map, places_len]
    exact hn
  refine dsx_seq (ρ1 := I ((lfw ls.length h.P).map dI).length) ?_ ?_
  · show DenS _ (I 0) _
    refine ds_forX I (js := [3]) (di_list (dn_call (Pre := pFol) (da_cons (dn_var (i := 0) rfl) (da_cons ((dn_cb (da_cons (dn_var (i := 1) rfl) da_nil) (rc_lenS (by rw [len_Sx]; omega))).is (by rw [len_Sx])) da_nil)) ⟨h, ls.length, hn, rfl, rfl⟩)) fun i d hdi => ?_
    have hi : i < (lfw ls.length h.P).length := by
      have := (List.getElem?_eq_some_iff.mp hdi).1
      simpa using this
    have hg : (lfw ls.length h.P)[i]? = some (lfw ls.length h.P)[i] := List.getElem?_eq_getElem hi
    rw [List.getElem?_map, hg] at hdi
    obtain rfl := (Option.some.inj hdi).symm
    have rb := lfw_bd (List.getElem_mem hi)
    have hL : L (i + 1) = lcf ls (L i) (lfw ls.length h.P)[i] := by
      show ((lfw ls.length h.P).take (i + 1)).foldl _ _ = _
      rw [take_succ_get hg, List.foldl_append]
      rfl
    have hLl : (L i).length ≤ 100 + 100 * i := by
      have : ∀ (m : List (List Int)) (f : List (Int × Int)), (∀ r ∈ m, r.length ≤ 10) → (m.foldl (lcf ls) f).length ≤ f.length + 100 * m.length := by
        intro m
        induction m with
        | nil => intro f _; simp
        | cons a r ih =>
          intro f hm
          have h1 := ih (lcf ls f a) fun x hx => hm x (List.mem_cons_of_mem _ hx)
          have h2 := lcf_len (ls := ls) (f := f) (hm a (by simp))
          rw [List.foldl_cons, List.length_cons]
          omega
      have h1 := this ((lfw ls.length h.P).take i) (lprs ls h.F) fun r hr => Nat.le_trans (lfw_bd (List.mem_of_mem_take hr)).1 hn
      have h2 := lprs_len (ls := ls) hF
      rw [List.length_take] at h1
      have h3 : min i (lfw ls.length h.P).length = i := by omega
      rw [h3] at h1
      exact Nat.le_trans h1 (by omega)
    generalize (lfw ls.length h.P)[i] = r at *
    have hI : I (i + 1) = [some (.d (lgD h)), some (.d (.str (Sx ls))), some (.d (dP (lcf ls (L i) r))), none, none] := by
      show [_, _, some (Sl.d (dP (L (i + 1)))), _, _] = _
      rw [hL]
    refine ⟨(I i).set 3 (some (.d (dI r))), dg_name, ?_⟩
    rw [hI]
    have pl := lprs_len (ls := ls) (F := r) (by omega)
    have lf := List.length_filter_le (fun q => !decide (q ∈ L i)) (lprs ls r)
    refine ds_le (ds_set (d := dP (lcf ls (L i) r)) (dn_catP (dn_var (i := 2) rfl) (b := (lprs ls r).filter fun q => !decide (q ∈ L i)) ?_ (by omega))) (by simp [LeE, I])
    unfold dP
    exact dn_lc (lprs ls r) pr (fun q => !decide (q ∈ L i)) pr (fun q => [some (.d (lgD h)), some (.d (.str (Sx ls))), some (.d (dP (L i))), some (.d (dI r)), some (.d (pr q))])
      (di_list (dn_call (Pre := pLp) (da_cons (dn_var (i := 1) rfl) (da_cons (dn_var (i := 3) rfl) da_nil)) ⟨ls, r, hn, by omega, rb.2, rfl, rfl⟩)) (fun q hq => dg_name) (fun q hq => dt_test (dn_op (dn_var (i := 4) rfl) (dn_var (i := 2) rfl) rd_notInP)) (fun q hq _ => dn_var (i := 4) rfl) (by omega)
  · have e : lnocf ls h = (L ((lfw ls.length h.P).map dI).length).isEmpty := by
      show _ = (List.foldl (lcf ls) (lprs ls h.F) ((lfw ls.length h.P).take _)).isEmpty
      rw [List.length_map, List.take_length, lcf_emp]
      rfl
    rw [e]
    exact dsx_ret (dx_sortedP (dn_var (i := 2) rfl))
/-! ### a walk along the tables -/
structure LgB (h : LG) (ls : List Nat) : Prop where
  n : ls.length ≤ 10
  n1 : 1 ≤ ls.length
  f : h.F.length ≤ 10
  fi : ∀ p ∈ h.F, 0 ≤ p ∧ p < ls.length
  pl : h.P.length ≤ 3000
  pi : ∀ q ∈ h.P, 0 ≤ q.2 ∧ q.2 < ls.length
def pWk (ds : List PyData) (S : PyData → Prop) : Prop := ∃ (h : LG) (ls : List Nat) (most : Nat), LgB h ls ∧ most ≤ 100 ∧ ds = [lgD h, .str (Sx ls), .int most] ∧ S = isW most ls
def oD (o : Option Int) : PyData := match o with
  | none => .none
  | some p => .int p
theorem Sx_app (a b : List Nat) : Sx a ++ Sx b = Sx (a ++ b) := by
  show Str.append _ _ = _
  unfold Str.append
  simp
theorem cl__law_walked (T : Tx K mg aR aS) : Cl P w K mg base 2 "_law_walked" (SpN pWk) := by
  have c__law_next := cl__law_next (P := P) (w := w) (base := base) T
  refine mk_cl T.d__law_walked sc__law_walked bd__law_walked (len_S (n := 3) (by rintro ds S ⟨h, ls, most, _, _, rfl, _⟩; rfl)) (fun f cdv A outer s H vs Q E hr h => ?_)
  refine ⟨_, (pss_cons (ps_set (i := 4) sc__law_walked.nd rfl (Or.inl rfl) pe_str) (pss_cons (ps_set (i := 5) sc__law_walked.nd rfl (Or.inr rfl) pe_non) (pss_cons (ps_for PassesOwn.never rfl (pi_range1 (by rfl) T.n_range (pa_cons (pe_cl c__law_next hr (by first | decide | omega) (by rfl) (pa_cons (pv 0) (pa_cons (pe_op op_add (pv 3) pe_int) pa_nil))) pa_nil)) (pg_name (i := 6) sc__law_walked.nd rfl (Or.inl rfl)) (pss_cons (ps_set (i := 7) sc__law_walked.nd rfl (Or.inl rfl) (pe_callB (k_sortedI K) (by rfl) T.n_sorted (by decide +kernel) (pa_cons (pe_ix (k_ixL K) (pv 1) pe_int (fun _ _ => rfl)) pa_nil))) (pss_cons (ps_if (pt_cmpR op_notN (pv 5) pe_non (nomark _)) (pss_one (ps_set (i := 7) sc__law_walked.nd rfl (Or.inl rfl) (pe_callB (k_sortedI K) (by rfl) T.n_sorted (by decide +kernel) (pa_cons (pe_lc (own := [("_law_one", 8), ("_law_other", 9)]) rfl sc__law_walked.nd (k_piL K (pe_ix (k_ixL K) (pv 1) pe_int (fun _ _ => rfl))) (blkOk_by (N := ["_law_stream_here", "_law_tables_here", "_law_letters_here", "_law_most", "_law_word_here", "_law_here", "_law_k", "_law_found", "_law_one", "_law_other"]) (sc := defScope s__law_walked) (own := [("_law_one", 8), ("_law_other", 9)]) (by decide +kernel)) (fun _ _ _ _ _ => (k_pgT K (n := 2) rfl (pgs_cons (pg_name (i := 8) sc__law_walked.nd rfl (Or.inl rfl)) (pgs_cons (pg_name (i := 9) sc__law_walked.nd rfl (Or.inl rfl)) pgs_nil)))) (fun _ _ _ _ _ => (pts_one (pt_cmpR op_eq (pv 8) (pv 5) (nomark _)))) (fun _ _ _ _ _ => (pv 9))) pa_nil)))) pss_nil) (pss_one (ps_if (k_truth K (pv 7) (by intro _; rfl)) (pss_cons (ps_set (i := 5) sc__law_walked.nd rfl (Or.inr rfl) (pe_ix (k_ixL K) (pv 7) (pe_cl c__law_next hr (by first | decide | omega) (by rfl) (pa_cons (pv 0) (pa_cons (pe_callB (k_len K) (by rfl) T.n_len PySem.boot_len (pa_cons (pv 7) pa_nil)) pa_nil))) (fun _ _ => rfl))) (pss_one (ps_set (i := 4) sc__law_walked.nd rfl (Or.inl rfl) (pe_op op_add_str (pv 4) (pe_ix ix_str (pv 2) (pv 5) (fun _ _ => rfl)))))) pss_nil))))) (pss_one (ps_ret (pv 4)))))), ?_⟩
  refine run_S h fun a ds S pre => ?_
  obtain ⟨h, ls, most, lb, hm, rfl, rfl⟩ := pre
  refine es_seq1 (ds_set (d := .str (Sx [])) (dn_str.is (by congr 1))) ?_
  refine es_seq1 (ds_set (d := .none) dn_non) ?_
  let V : List Nat → Option Int → Ev := fun w o => [some (.r (.ref a)), some (.d (lgD h)), some (.d (.str (Sx ls))), some (.d (.int most)), some (.d (.str (Sx w))), some (.d (oD o)), none, none, none, none]
  let I : Nat → Ev → Prop := fun i ρ => ∃ w o, w.length ≤ i ∧ (∀ c ∈ w, c ∈ ls) ∧ ρ = V w o
  refine es_seq (es_for (js := [6]) (N := fun n => n ≤ most) I (ei_rng1 (ee_next (n := most + 1) rfl (ee_pure (dn_op (dn_var (i := 3) rfl) dn_int rd_add)) (by omega) (by omega)) fun d hd => ?_) ⟨[], none, Nat.zero_le _, by simp, rfl⟩ fun n i ρ0 hn hi h0 => ?_) fun ρ1 h1 => ?_
  · obtain ⟨g, rfl, g0, g1⟩ := hd
    exact ⟨g.toNat, by rw [Int.toNat_of_nonneg g0], by omega, by show g.toNat ≤ most; omega⟩
  · obtain ⟨w, o, hw, hc, rfl⟩ := h0
    have hn' : n ≤ most := hn
    refine ⟨_, dg_name, ?_⟩
    have lb1 := lb.pl
    have lbn := lb.n
    let U : PyData → Ev := fun x => [some (.r (.ref a)), some (.d (lgD h)), some (.d (.str (Sx ls))), some (.d (.int most)), some (.d (.str (Sx w))), some (.d (oD o)), some (.d (.int i)), some (.d x), none, none]
    refine es_seq1 (ds_set (d := dI (srt h.F)) (dn_cb (da_cons (dn_ixL (z := dI h.F) (dn_var (i := 1) rfl) rfl) da_nil) rc_sorted)) ?_
    refine es_seq (G := fun ρ' => ∃ fs : List Int, fs.length ≤ 3000 ∧ (∀ p ∈ fs, 0 ≤ p ∧ p < ls.length) ∧ ρ' = U (dI fs)) ?_ fun ρ' hρ => ?_
    · have q5 : ∀ x : PyData, (U x)[5]? = some (some (.d (oD o))) := fun x => rfl
      show DeS (fs a) _ (U (dI (srt h.F))) _ _
      refine es_imp (es_pure (ds_if (c := o.isSome) (o := .nx (U (dI (match o with
        | none => srt h.F
        | some p => srt ((h.P.filter fun q => decide (q.1 = p)).map (·.2)))))) (dt_test ((dn_op (dn_var (q5 _)) dn_non rd_notN).is (by cases o <;> rfl))) (fun ho => ?_) fun ho => ?_)) fun ρ' hρ => ?_
      · cases o with
        | none => cases ho
        | some p =>
          refine ds_le (ds_set (dn_cb (da_cons (d := .list (((h.P.filter fun q => decide (q.1 = p)).map (·.2)).map .int)) ?_ da_nil) rc_sorted)) (by simp [LeE, U, dI])
          rw [List.map_map]
          exact dn_lc (vs := [8, 9]) h.P pr (fun q => decide (q.1 = p)) (PyData.int ∘ (·.2)) (fun q => [some (.r (.ref a)), some (.d (lgD h)), some (.d (.str (Sx ls))), some (.d (.int most)), some (.d (.str (Sx w))), some (.d (.int p)), some (.d (.int i)), some (.d (dI (srt h.F))), some (.d (.int q.1)), some (.d (.int q.2))])
            (di_list (dn_ixL (z := dP h.P) (dn_var (i := 1) rfl) rfl)) (fun q hq => dg_tup (dgs_cons dg_name (dgs_cons dg_name dgs_nil)) rfl) (fun q hq => dt_test (dn_op (dn_var (i := 8) rfl) (dn_var (i := 5) rfl) rd_eqI)) (fun q hq _ => dn_var (i := 9) rfl) (by omega)
      · cases o with
        | none => exact ds_next
        | some p => cases ho
      · subst hρ
        refine ⟨_, .refl _, _, ?_, ?_, rfl⟩
        · cases o with
          | none =>
            show (srt h.F).length ≤ 3000
            rw [(srt_perm _).length_eq]
            exact Nat.le_trans lb.f (by decide)
          | some p =>
            show (srt _).length ≤ 3000
            rw [(srt_perm _).length_eq, List.length_map]
            exact Nat.le_trans (List.length_filter_le _ _) lb1
        · cases o with
          | none => exact fun p hp => lb.fi p ((srt_perm _).mem_iff.mp hp)
          | some p =>
            intro x hx
            have := (srt_perm _).mem_iff.mp hx
            obtain ⟨q, hq, rfl⟩ := List.mem_map.mp this
            exact lb.pi q (List.mem_filter.mp hq).1
    · obtain ⟨fs', fl, fb, rfl⟩ := hρ
      refine es_if (S1 := (· = !fs'.isEmpty)) (eb_pure ((dk_truth (b := !fs'.isEmpty) (dn_var (i := 7) rfl) (by unfold dI tru; cases fs' <;> rfl) (fun s z => absurd z dI_ns)))) (fun hb => ?_) fun hb => es_imp (es_pure ds_next) fun ρ' h => ⟨V w o, by rw [h]; simp [LeE, U, V], w, o, by omega, hc, rfl⟩
      have fpos : 0 < fs'.length := by
        cases fs' with
        | nil => cases hb
        | cons _ _ => simp
      refine es_seq (es_set (S := fun d => ∃ p, d = .int p ∧ 0 ≤ p ∧ p < ls.length) (ee_op (ee_pure (dn_var (i := 7) rfl)) (fun _ _ => ee_next (n := fs'.length) rfl (ee_pure (dk_len (dn_var (i := 7) rfl) (by simp [dI, lenD]))) (by omega) (by omega)) fun x y hx hy => ?_)) fun ρ' hρ => ?_
      · obtain ⟨g, rfl, g0, g1⟩ := hy
        subst hx
        have hg : g.toNat < fs'.length := by omega
        have hmem : fs'.getD g.toNat 0 ∈ fs' := by rw [List.getD_eq_getElem?_getD, List.getElem?_eq_getElem hg]; exact List.getElem_mem _
        exact ⟨_, rd_ixL (atI_map (atI_in 0 g0 g1)), _, rfl, fb _ hmem⟩
      · obtain ⟨d, ⟨p, rfl, p0, p1⟩, rfl⟩ := hρ
        have hp : p.toNat < ls.length := by omega
        have hmem : atL ls p ∈ ls := by unfold atL; rw [List.getD_eq_getElem?_getD, List.getElem?_eq_getElem hp]; exact List.getElem_mem _
        refine es_imp (es_pure (ds_set (d := .str (Sx (w ++ [atL ls p]))) (dn_op (dn_var (i := 4) rfl) (dn_letL lbn (dn_var (i := 2) rfl) (dn_var (i := 5) rfl) p0 p1) ?_))) fun ρ' h => ⟨V (w ++ [atL ls p]) (some p), by rw [h]; simp [LeE, U, V, oD], _, _, by rw [List.length_append]; simp; omega, fun c hcw => ?_, rfl⟩
        · have := rd_addS (s := Sx w) (t := Sx [atL ls p]) (by rw [len_Sx, len_Sx]; simp; omega)
          rw [Sx_app] at this
          exact this
        · rcases List.mem_append.mp hcw with h | h
          · exact hc c h
          · rw [List.mem_singleton.mp h]; exact hmem
  · obtain ⟨n, hn, w, o, hw, hc, rfl⟩ := h1
    have hn' : n ≤ most := hn
    exact es_ret (ee_imp (ee_pure (dn_var (i := 4) rfl)) fun d hd => ⟨w, hd, by omega, hc⟩)
end
end Nd
set_option Elab.async false
set_option linter.all false
set_option maxRecDepth 100000
set_option maxHeartbeats 1000000
/-! The plain law: without conflicts a word has one reading at most, the same by the law and by the program. -/
namespace Nd
open PySem PySem.Spec PyProof.Rows L2
/-- no two places of F with the same letter -/
def noc (ls : List Nat) (F : List Int) : Prop := ∀ a ∈ F, ∀ b ∈ F, atL ls a = atL ls b → a = b
theorem noc_lt {ls : List Nat} {F : List Int} : noc ls F ↔ ∀ a ∈ F, ∀ b ∈ F, a < b → atL ls a ≠ atL ls b := by
  constructor
  · intro h a ha b hb l e
    have := h a ha b hb e
    omega
  · intro h a ha b hb e
    rcases Int.lt_trichotomy a b with l | l | l
    · exact absurd e (h a ha b hb l)
    · exact l
    · exact absurd e.symm (h b hb a ha l)
theorem noc_set {ls : List Nat} {F G : List Int} (s : ∀ a, a ∈ F ↔ a ∈ G) : noc ls F ↔ noc ls G :=
  ⟨fun h a ha b hb => h a ((s a).mpr ha) b ((s b).mpr hb), fun h a ha b hb => h a ((s a).mp ha) b ((s b).mp hb)⟩
theorem fm_emp {F : List Int} {p : Int → Int → Bool} : (F.flatMap fun a => (F.filter fun b => p a b).map fun b => (a, b)).isEmpty = true ↔ ∀ a ∈ F, ∀ b ∈ F, p a b = false := by
  rw [List.isEmpty_iff, List.flatMap_eq_nil_iff]
  constructor
  · intro h a ha b hb
    have := h a ha
    rw [List.map_eq_nil_iff, List.filter_eq_nil_iff] at this
    simpa using this b hb
  · intro h a ha
    rw [List.map_eq_nil_iff, List.filter_eq_nil_iff]
    intro b hb
    rw [h a ha b hb]
    exact Bool.false_ne_true
theorem pair_f {a b : Int} {x y : Nat} : (decide (a < b) && decide (x = y)) = false ↔ (a < b → x ≠ y) := by
  by_cases h : a < b <;> simp [h]
theorem prs_emp {t : Tb} {F : List Int} : (prs t F).isEmpty = true ↔ noc t.ls F := by
  unfold prs
  rw [fm_emp, noc_lt]
  exact ⟨fun h a ha b hb => pair_f.mp (h a ha b hb), fun h a ha b hb => pair_f.mpr (h a ha b hb)⟩
theorem lprs_emp {ls : List Nat} {F : List Int} : (lprs ls F).isEmpty = true ↔ noc ls F := by
  unfold lprs
  rw [fm_emp, ← noc_set (F := srt F) (fun a => (srt_perm F).mem_iff), noc_lt]
  exact ⟨fun h a ha b hb => pair_f.mp (h a ha b hb), fun h a ha b hb => pair_f.mpr (h a ha b hb)⟩
def lgo (n : Nat) (P : List (Int × Int)) (p : Int) : List Int := (places n).filter fun b => decide ((p, b) ∈ P)
theorem mem_places {n : Nat} {p : Int} : p ∈ places n ↔ 0 ≤ p ∧ p < n := by
  refine ⟨places_bd, fun h => List.mem_map.mpr ⟨p.toNat, List.mem_range.mpr (by omega), by omega⟩⟩
/-- the law's tables beside the program's -/
structure Tw (t : Tb) (h : LG) : Prop where
  ok : TbOk t
  F : ∀ a, a ∈ h.F ↔ a ∈ t.F
  L : ∀ a, a ∈ h.L ↔ a ∈ t.L
  W : ∀ p : Int, 0 ≤ p → p < (t.ls.length : Int) → ∀ b, b ∈ lgo t.ls.length h.P p ↔ b ∈ t.go p
  b : h.b = t.b
theorem go_tab (e : Xp) {p : Int} (h0 : 0 ≤ p) (h : p < ((lt e).length : Int)) : (tab e).go p = fol (ga e 0).2.2 p := by
  unfold Tb.go
  show ((places (lt e).length).map (fol (ga e 0).2.2)).getD p.toNat [] = _
  rw [List.getD_eq_getElem?_getD, List.getElem?_map]
  unfold places
  rw [List.getElem?_map, List.getElem?_range (by omega)]
  show fol _ ((p.toNat : Nat) : Int) = _
  rw [Int.toNat_of_nonneg h0]
theorem tw_tab {e : Xp} (ok : Ok e) : Tw (tab e) (lga e 0) := by
  have g := ga_b e 0 ok.w ok.l
  obtain ⟨s, sb⟩ := sim_e e 0 ok.w
  refine ⟨tab_ok ok, fun a => ?_, fun a => ?_, fun p h0 h b => ?_, sb⟩
  · rw [s.F]
    exact mem_ord.symm
  · rw [s.Lm]
    exact mem_ord.symm
  · rw [go_tab e h0 h, mem_fol, ← s.Pm]
    unfold lgo
    rw [List.mem_filter, decide_eq_true_iff]
    refine ⟨fun z => z.2, fun z => ⟨mem_places.mpr ?_, z⟩⟩
    have := (g.pi _ ((s.Pm _).mp z)).2
    show 0 ≤ b ∧ b < ((lt e).length : Int)
    simp only at this
    omega
theorem Tw.nocf {t : Tb} {h : LG} (T : Tw t h) (hw : ∀ r ∈ t.W, ∃ p, 0 ≤ p ∧ p < (t.ls.length : Int) ∧ r = t.go p) : lnocf t.ls h = nocf t := by
  have e : lnocf t.ls h = true ↔ Nd.nocf t = true := by
    unfold lnocf Nd.nocf
    rw [Bool.and_eq_true, Bool.and_eq_true, lprs_emp, prs_emp, noc_set T.F, List.all_eq_true, List.all_eq_true]
    refine and_congr_right fun _ => ⟨fun k r hr => ?_, fun k r hr => ?_⟩
    · obtain ⟨p, p0, p1, rfl⟩ := hw r hr
      rw [prs_emp, ← noc_set (T.W p p0 p1), ← lprs_emp]
      exact k _ (List.mem_map.mpr ⟨p, mem_places.mpr ⟨p0, p1⟩, rfl⟩)
    · obtain ⟨p, hp, rfl⟩ := List.mem_map.mp hr
      obtain ⟨p0, p1⟩ := places_bd hp
      rw [lprs_emp]
      show noc t.ls (lgo t.ls.length h.P p)
      rw [noc_set (T.W p p0 p1), ← prs_emp]
      exact k _ (go_mem T.ok p0 p1)
  cases c : Nd.nocf t with
  | true => exact e.mpr c
  | false =>
    cases d : lnocf t.ls h with
    | false => rfl
    | true => rw [e.mp d] at c; cases c
theorem tab_W {e : Xp} : ∀ r ∈ (tab e).W, ∃ p, 0 ≤ p ∧ p < ((tab e).ls.length : Int) ∧ r = (tab e).go p := fun r hr => by
  obtain ⟨p, hp, rfl⟩ := List.mem_map.mp hr
  obtain ⟨p0, p1⟩ := places_bd hp
  exact ⟨p, p0, p1, (go_tab e p0 p1).symm⟩
/-- sure tables -/
structure Sure (t : Tb) : Prop where
  ok : TbOk t
  f : noc t.ls t.F
  w : ∀ r ∈ t.W, noc t.ls r
theorem sure_of {t : Tb} (ok : TbOk t) (h : nocf t = true) : Sure t := by
  unfold nocf at h
  rw [Bool.and_eq_true, List.all_eq_true] at h
  exact ⟨ok, prs_emp.mp h.1, fun r hr => prs_emp.mp (h.2 r hr)⟩
/-- a row without conflicts, in bounds -/
structure Cand (t : Tb) (r : List Int) : Prop where
  n : noc t.ls r
  r : ROk t r
theorem Sure.F {t : Tb} (s : Sure t) : Cand t t.F := ⟨s.f, s.ok.f⟩
theorem Sure.go {t : Tb} (s : Sure t) {p : Int} (h : 0 ≤ p ∧ p < t.ls.length) : Cand t (t.go p) := ⟨s.w _ (go_mem s.ok h.1 h.2), s.ok.ws _ (go_mem s.ok h.1 h.2)⟩
abbrev fil (t : Tb) (r : List Int) (c : Nat) : List Int := r.filter fun p => decide (t.at_ p = c)
theorem fil_mem {t : Tb} {r : List Int} {c : Nat} {p : Int} : p ∈ fil t r c ↔ p ∈ r ∧ t.at_ p = c := by
  unfold fil
  rw [List.mem_filter, decide_eq_true_iff]
theorem one_of {l : List Int} (nd : l.Nodup) (h : ∀ a ∈ l, ∀ b ∈ l, a = b) : l = [] ∨ ∃ g, l = [g] := by
  match l, nd, h with
  | [], _, _ => exact .inl rfl
  | [g], _, _ => exact .inr ⟨g, rfl⟩
  | a :: b :: r, nd, h =>
    have := h a (by simp) b (by simp)
    subst this
    simp at nd
theorem Cand.one {t : Tb} {r : List Int} (c : Cand t r) (x : Nat) : fil t r x = [] ∨ ∃ g, fil t r x = [g] ∧ g ∈ r ∧ t.at_ g = x ∧ 0 ≤ g ∧ g < t.ls.length := by
  rcases one_of (l := fil t r x) ((up_nodup c.r.1).filter _) (fun a ha b hb => c.n a (fil_mem.mp ha).1 b (fil_mem.mp hb).1 ((fil_mem.mp ha).2.trans (fil_mem.mp hb).2.symm)) with h | ⟨g, h⟩
  · exact .inl h
  · have hg : g ∈ fil t r x := by rw [h]; simp
    exact .inr ⟨g, h, (fil_mem.mp hg).1, (fil_mem.mp hg).2, c.r.2 g (fil_mem.mp hg).1⟩
/-! ### the law's reading -/
def dstep (ls : List Nat) (P : List (Int × Int)) (s : List Int × List Int) (c : Nat) : List Int × List Int := match s.2.filter fun p => decide (atL ls p = c) with
  | [] => (s.1, [])
  | g :: _ => (s.1 ++ [g], lgo ls.length P g)
theorem dstep_nil {ls : List Nat} {P : List (Int × Int)} : ∀ (w : List Nat) (d : List Int), (w.foldl (dstep ls P) (d, [])) = (d, [])
  | [], d => rfl
  | c :: w, d => by rw [List.foldl_cons]; exact dstep_nil w d
theorem due_is {t : Tb} {h : LG} (T : Tw t h) (s : Sure t) : ∀ (w : List Nat) (d bh bh' : List Int), (∀ a, a ∈ bh ↔ a ∈ bh') → Cand t bh' → (w.foldl (dstep t.ls h.P) (d, bh)).1 = d ++ rdw t bh' w
  | [], d, bh, bh', _, _ => by simp [rdw]
  | c :: w, d, bh, bh', e, cd => by
    rw [List.foldl_cons, rdw]
    have em : ∀ p, p ∈ bh.filter (fun p => decide (atL t.ls p = c)) ↔ p ∈ fil t bh' c := fun p => by
      rw [fil_mem, List.mem_filter, decide_eq_true_iff, e]
      exact Iff.rfl
    rcases cd.one c with h0 | ⟨g, h1, hg, _, b0, b1⟩
    · have : bh.filter (fun p => decide (atL t.ls p = c)) = [] := by
        apply List.eq_nil_iff_forall_not_mem.mpr
        intro p hp
        have := (em p).mp hp
        rw [h0] at this
        cases this
      have st : dstep t.ls h.P (d, bh) c = (d, []) := by
        unfold dstep
        simp only [this]
      rw [st, dstep_nil]
      show d = d ++ (match fil t bh' c with | [] => [] | g :: _ => _)
      rw [h0]
      simp
    · obtain ⟨gs, hgs⟩ : ∃ gs, bh.filter (fun p => decide (atL t.ls p = c)) = g :: gs := by
        cases q : bh.filter (fun p => decide (atL t.ls p = c)) with
        | nil =>
          have := (em g).mpr (by rw [h1]; simp)
          rw [q] at this
          cases this
        | cons x xs =>
          have hx := (em x).mp (by rw [q]; simp)
          rw [h1, List.mem_singleton] at hx
          rw [hx]
          exact ⟨xs, rfl⟩
      have st : dstep t.ls h.P (d, bh) c = (d ++ [g], lgo t.ls.length h.P g) := by
        unfold dstep
        simp only [hgs]
      rw [st, due_is T s w (d ++ [g]) (lgo t.ls.length h.P g) (t.go g) (T.W g b0 b1) (s.go ⟨b0, b1⟩)]
      show _ = d ++ (match fil t bh' c with | [] => [] | g :: _ => _)
      rw [h1, List.append_assoc]
      rfl
/-! ### the rows -/
def rwS (t : Tb) : List Int → List Nat → List (List Int)
  | _, [] => []
  | bh, c :: w => match fil t bh c with
    | [] => [] :: List.replicate w.length []
    | g :: _ => [g] :: rwS t (t.go g) w
theorem nxt_nil (t : Tb) (c : Nat) : nxt t (some []) c = [] := by
  have h : ∀ a, a ∉ nxt t (some []) c := fun a ha => by
    unfold nxt at ha
    have := (List.mem_filter.mp ha).1
    simp only [mem_ord, List.flatMap_nil] at this
    cases this
  exact List.eq_nil_iff_forall_not_mem.mpr h
theorem rw_nil (t : Tb) : ∀ w : List Nat, rw t (some []) w = List.replicate w.length []
  | [] => rfl
  | c :: w => by
    rw [rw, nxt_nil, rw_nil t w]
    rfl
theorem same_one {l m : List Int} (hl : l = [] ∨ ∃ g, l = [g]) (hm : m = [] ∨ ∃ g, m = [g]) (h : ∀ a, a ∈ l ↔ a ∈ m) : l = m := by
  rcases hl with rfl | ⟨g, rfl⟩ <;> rcases hm with rfl | ⟨g', rfl⟩
  · rfl
  · have := (h g').mpr (by simp); cases this
  · have := (h g).mp (by simp); cases this
  · have := (h g).mp (by simp)
    rw [List.mem_singleton.mp this]
theorem nxt_one {t : Tb} {g : Int} (cd : Cand t (t.go g)) (c : Nat) : nxt t (some [g]) c = fil t (t.go g) c := by
  have e : ∀ a, a ∈ ord ([g].flatMap t.go) ↔ a ∈ t.go g := fun a => by rw [mem_ord]; simp
  have c2 : Cand t (ord ([g].flatMap t.go)) := ⟨(noc_set e).mpr cd.n, ord_up _, fun a ha => cd.r.2 a ((e a).mp ha)⟩
  refine same_one ?_ ?_ fun a => ?_
  · rcases c2.one c with h | ⟨x, h, _⟩
    · exact .inl h
    · exact .inr ⟨x, h⟩
  · rcases cd.one c with h | ⟨x, h, _⟩
    · exact .inl h
    · exact .inr ⟨x, h⟩
  · show a ∈ fil t (ord ([g].flatMap t.go)) c ↔ _
    rw [fil_mem, fil_mem, e]
theorem rw_is {t : Tb} (s : Sure t) : ∀ (w : List Nat) (h : Option (List Int)) (bh : List Int), (∀ c, nxt t h c = fil t bh c) → Cand t bh → rw t h w = rwS t bh w
  | [], _, _, _, _ => rfl
  | c :: w, h, bh, e, cd => by
    rw [rw, rwS, e c]
    rcases cd.one c with h0 | ⟨g, h1, hg, _, b0, b1⟩
    · rw [h0, rw_nil]
    · rw [h1, rw_is s w (some [g]) (t.go g) (nxt_one (s.go ⟨b0, b1⟩)) (s.go ⟨b0, b1⟩)]
theorem rw_F {t : Tb} (s : Sure t) (w : List Nat) : rw t none w = rwS t t.F w := rw_is s w none t.F (fun _ => rfl) s.F
theorem rwS_one (t : Tb) : ∀ (w : List Nat) (bh : List Int), ∀ r ∈ rwS t bh w, r.length ≤ 1
  | [], _, r, h => by cases h
  | c :: w, bh, r, h => by
    rw [rwS] at h
    split at h
    · rcases List.mem_cons.mp h with rfl | h
      · simp
      · rw [List.eq_of_mem_replicate h]
        simp
    · rcases List.mem_cons.mp h with rfl | h
      · simp
      · exact rwS_one t w _ r h
theorem one_sure {t : Tb} (s : Sure t) (w : List Nat) : One t w := by
  unfold One
  rw [rw_F s]
  exact rwS_one t w t.F
/-! ### the counts -/
def lastL : Int → List Int → Int
  | g, [] => g
  | _, a :: l => lastL a l
def valr (t : Tb) (g : Int) (w : List Nat) : Int := cv t (cn t (rwS t (t.go g) w)).head? g
theorem rdw_nil {t : Tb} {bh : List Int} {c : Nat} {w : List Nat} (h : fil t bh c = []) : rdw t bh (c :: w) = [] := by
  rw [rdw]
  show (match fil t bh c with | [] => [] | g :: _ => _) = _
  rw [h]
theorem rdw_one {t : Tb} {bh : List Int} {c : Nat} {w : List Nat} {g : Int} (h : fil t bh c = [g]) : rdw t bh (c :: w) = g :: rdw t (t.go g) w := by
  rw [rdw]
  show (match fil t bh c with | [] => [] | g :: _ => _) = _
  rw [h]
theorem cn_nil {t : Tb} {bh : List Int} {c : Nat} {w : List Nat} (h : fil t bh c = []) : ∃ r, cn t (rwS t bh (c :: w)) = [] :: r := by
  rw [rwS]
  show ∃ r, cn t (match fil t bh c with | [] => _ | g :: _ => _) = [] :: r
  rw [h]
  exact ⟨_, rfl⟩
theorem cn_one {t : Tb} {bh : List Int} {c : Nat} {w : List Nat} {g : Int} (h : fil t bh c = [g]) : cn t (rwS t bh (c :: w)) = [(g, valr t g w)] :: cn t (rwS t (t.go g) w) := by
  rw [rwS]
  show cn t (match fil t bh c with | [] => _ | g :: _ => _) = _
  rw [h]
  rfl
theorem fil_eq {g : Int} : ∀ {l : List Int}, l.Nodup → g ∈ l → l.filter (fun o => decide (g = o)) = [g]
  | a :: l, nd, hm => by
    rw [List.nodup_cons] at nd
    by_cases e : g = a
    · subst e
      rw [List.filter_cons_of_pos (by simp)]
      have : l.filter (fun o => decide (g = o)) = [] := by
        rw [List.filter_eq_nil_iff]
        intro x hx z
        have : g = x := by simpa using z
        rw [this] at nd
        exact nd.1 hx
      rw [this]
    · rw [List.filter_cons_of_neg (by simpa using e)]
      rcases List.mem_cons.mp hm with z | z
      · exact absurd z e
      · exact fil_eq nd.2 z
theorem cv_one {t : Tb} {g g2 : Int} {v : Int} (nd : (t.go g).Nodup) (h : g2 ∈ t.go g) : cv t (some [(g2, v)]) g = v := by
  show (((t.go g).filter fun o => (getI [(g2, v)] o).isSome).map fun o => (getI [(g2, v)] o).getD 0).sum = v
  have e : ∀ o, getI [(g2, v)] o = if g2 = o then some v else none := fun o => by
    unfold getI
    by_cases c : g2 = o
    · simp [c]
    · simp [c]
  have e2 : ((t.go g).filter fun o => (getI [(g2, v)] o).isSome) = [g2] := by
    rw [← fil_eq nd h]
    refine List.filter_congr fun o _ => ?_
    rw [e]
    by_cases c : g2 = o <;> simp [c]
  rw [e2]
  simp [e]
theorem valr_is {t : Tb} (s : Sure t) : ∀ (w : List Nat) (g : Int), 0 ≤ g ∧ g < t.ls.length → valr t g w = if (rdw t (t.go g) w).length = w.length ∧ lastL g (rdw t (t.go g) w) ∈ t.L then 1 else 0
  | [], g, _ => by
    show (if decide (g ∈ t.L) then (1 : Int) else 0) = _
    by_cases h : g ∈ t.L <;> simp [h, rdw, lastL]
  | c :: w, g, hg => by
    have cd := s.go hg
    rcases cd.one c with h0 | ⟨g2, h1, m2, _, b2⟩
    · obtain ⟨r, hr⟩ := cn_nil (w := w) h0
      unfold valr
      rw [hr, rdw_nil h0]
      have : cv t (some []) g = 0 := by
        show (((t.go g).filter fun o => (getI [] o).isSome).map fun o => (getI [] o).getD 0).sum = 0
        have : ((t.go g).filter fun o => (getI [] o).isSome) = [] := List.filter_eq_nil_iff.mpr fun o _ => by simp [getI]
        rw [this]
        rfl
      show cv t (some []) g = _
      rw [this, if_neg (by simp)]
    · unfold valr
      rw [cn_one h1, rdw_one h1]
      show cv t (some [(g2, valr t g2 w)]) g = _
      rw [cv_one (up_nodup cd.r.1) m2, valr_is s w g2 b2]
      have e : lastL g (g2 :: rdw t (t.go g2) w) = lastL g2 (rdw t (t.go g2) w) := rfl
      rw [e]
      simp only [List.length_cons, Nat.add_right_cancel_iff]
/-- the reading is a marking of the whole word -/
def right (t : Tb) (w : List Nat) : Bool := decide ((rdw t t.F w).length = w.length) && (if w.isEmpty then t.b else decide (lastL 0 (rdw t t.F w) ∈ t.L))
theorem last_cons (g : Int) (l : List Int) : lastL 0 (g :: l) = lastL g l := rfl
theorem right_one {t : Tb} {c : Nat} {w : List Nat} {g : Int} (h : fil t t.F c = [g]) : right t (c :: w) = decide ((rdw t (t.go g) w).length = w.length ∧ lastL g (rdw t (t.go g) w) ∈ t.L) := by
  unfold right
  rw [rdw_one h, last_cons]
  simp
theorem cm_is {t : Tb} (s : Sure t) (w : List Nat) : cm t w = if right t w then 1 else 0 := by
  unfold cm
  rw [rw_F s]
  cases w with
  | nil =>
    show (if t.b then (1 : Int) else 0) = _
    simp [right, rdw]
  | cons c w =>
    rcases s.F.one c with h0 | ⟨g, h1, _, _, b⟩
    · obtain ⟨r, hr⟩ := cn_nil (w := w) h0
      rw [hr]
      have : right t (c :: w) = false := by
        unfold right
        rw [rdw_nil h0]
        simp
      rw [this]
      rfl
    · rw [cn_one h1, right_one h1]
      show (List.map _ [(g, valr t g w)]).sum = _
      simp only [List.map_cons, List.map_nil, List.sum_cons, List.sum_nil, Int.add_zero]
      rw [valr_is s w g b]
      simp
theorem srt_one (g : Int) : srt [g] = [g] := by simp [srt]
theorem srt_nil : srt [] = [] := by simp [srt]
theorem getI_hit (g v : Int) : getI [(g, v)] g = some v := by simp [getI]
theorem stepF_hit {t : Tb} {f bh : List Int} {g : Int} (hg : g ∈ bh) : stepF t (f, bh) [(g, 1)] = some (f ++ [g], t.go g) := by
  unfold stepF
  have : ((srt ([(g, (1 : Int))].map (·.1))).filter fun q => decide (0 < (getI [(g, 1)] q).getD 0) && decide (q ∈ bh)) = [g] := by
    show (srt [g]).filter _ = _
    rw [srt_one]
    simp [getI_hit, hg]
  simp only [this]
theorem stepF_miss {t : Tb} {f bh : List Int} {g : Int} : stepF t (f, bh) [(g, 0)] = none := by
  unfold stepF
  have : ((srt ([(g, (0 : Int))].map (·.1))).filter fun q => decide (0 < (getI [(g, 0)] q).getD 0) && decide (q ∈ bh)) = [] := by
    show (srt [g]).filter _ = _
    rw [srt_one]
    simp [getI_hit]
  simp only [this]
theorem stepF_nil {t : Tb} {f bh : List Int} : stepF t (f, bh) [] = none := by
  unfold stepF
  have : ((srt (([] : List (Int × Int)).map (·.1))).filter fun q => decide (0 < (getI [] q).getD 0) && decide (q ∈ bh)) = [] := by
    show (srt []).filter _ = _
    rw [srt_nil]
    rfl
  simp only [this]
theorem lp_full {t : Tb} (s : Sure t) : ∀ (w : List Nat) (f bh : List Int), Cand t bh → (rdw t bh w).length = w.length → (∀ g l, rdw t bh w = g :: l → lastL g l ∈ t.L) →
    ∃ x, lp (stepF t) (f, bh) (cn t (rwS t bh w)) = ((f ++ rdw t bh w, x), true)
  | [], f, bh, _, _, _ => ⟨bh, by simp [rwS, cn, lp, rdw]⟩
  | c :: w, f, bh, cd, hl, hL => by
    rcases cd.one c with h0 | ⟨g, h1, hg, _, b⟩
    · rw [rdw_nil h0] at hl
      simp at hl
    · rw [rdw_one h1] at hl hL
      have hl' : (rdw t (t.go g) w).length = w.length := by simpa using hl
      have hlast := hL g _ rfl
      have v1 : valr t g w = 1 := by
        rw [valr_is s w g b, if_pos ⟨hl', hlast⟩]
      obtain ⟨x, hx⟩ := lp_full s w (f ++ [g]) (t.go g) (s.go b) hl' fun g2 l2 e => by
        rw [e] at hlast
        have : lastL g (g2 :: l2) = lastL g2 l2 := rfl
        rw [this] at hlast
        exact hlast
      refine ⟨x, ?_⟩
      rw [cn_one h1, v1, lp, stepF_hit hg]
      simp only
      rw [hx, rdw_one h1, List.append_assoc]
      rfl
theorem fm_is {t : Tb} (s : Sure t) (w : List Nat) : fm t w = if right t w then dT (rdw t t.F w) else .none := by
  unfold fm
  rw [rw_F s]
  cases w with
  | nil => simp [right, rdw]
  | cons c w =>
    rw [if_neg (by simp)]
    rcases s.F.one c with h0 | ⟨g, h1, hg, _, b⟩
    · obtain ⟨r, hr⟩ := cn_nil (w := w) h0
      have hr' : right t (c :: w) = false := by
        unfold right
        rw [rdw_nil h0]
        simp
      rw [hr, hr', lp, stepF_nil]
      rfl
    · by_cases h : (rdw t (t.go g) w).length = w.length ∧ lastL g (rdw t (t.go g) w) ∈ t.L
      · have hr : right t (c :: w) = true := by rw [right_one h1]; exact decide_eq_true h
        obtain ⟨x, hx⟩ := lp_full s (c :: w) [] t.F s.F (by rw [rdw_one h1]; simp [h.1]) fun g2 l2 e => by
          rw [rdw_one h1] at e
          cases e
          exact h.2
        rw [hx, hr]
        simp
      · have hr : right t (c :: w) = false := by rw [right_one h1]; exact decide_eq_false h
        have v0 : valr t g w = 0 := by rw [valr_is s w g b, if_neg h]
        rw [cn_one h1, v0, lp, stepF_miss, hr]
        rfl
end Nd
set_option Elab.async false
set_option linter.all false
set_option maxRecDepth 100000
set_option maxHeartbeats 8000000
namespace Nd
open PySem PySem.Spec PyProof.Rows L2
open Evl (Ex Ex.refl Ex.trans Ex.new)
abbrev s__law_stream : Stmt := topS 37
theorem sc__law_stream : FnScope ["_law_script"] ["_law_script"] (defScope s__law_stream) := ⟨rfl, rfl, rfl, by decide +kernel, rfl, by decide +kernel, by decide +kernel⟩
theorem bd__law_stream (kV doc pm : Value) (an : Option Addr) (cdv ct : Value) (us : List Value) (hl : us.length = (["_law_script"] : List Str).length) : bindArgs (PySem.W.fnOf "_law_stream" "_law_stream" (defArgs s__law_stream) (defBody s__law_stream) (defScope s__law_stream) .none kV doc pm an cdv ct) ⟨us, []⟩ = pure ((["_law_script"] : List Str).zip us) :=
  match us, hl with | [_], _ => rfl
abbrev s_law : Stmt := topS 57
theorem sc_law : FnScope ["_law_script", "_law_stream_here", "_law_expression_here", "_law_letters_here", "_law_tables_here", "_law_follow_here", "_law_sure", "_law_turn", "_law_word_here", "_law_told_here", "_law_due", "_law_behind_here", "_law_letter", "_law_right", "_law_here", "_law_place"] ["_law_script"] (defScope s_law) := ⟨rfl, rfl, rfl, by decide +kernel, rfl, by decide +kernel, by decide +kernel⟩
theorem bd_law (kV doc pm : Value) (an : Option Addr) (cdv ct : Value) (us : List Value) (hl : us.length = (["_law_script"] : List Str).length) : bindArgs (PySem.W.fnOf "law" "law" (defArgs s_law) (defBody s_law) (defScope s_law) .none kV doc pm an cdv ct) ⟨us, []⟩ = pure ((["_law_script"] : List Str).zip us) :=
  match us, hl with | [_], _ => rfl
theorem shaped_ints : ∀ l : List Int, PyData.canLayAll0 (l.map .int) = true ∧ PyData.depthAll (l.map .int) ≤ 1
  | [] => ⟨rfl, by simp [PyData.depthAll]⟩
  | q :: l => by
    obtain ⟨h1, h2⟩ := shaped_ints l
    rw [List.map_cons]
    refine ⟨by rw [PyData.canLayAll0, h1]; rfl, ?_⟩
    simp only [PyData.depthAll, PyData.depth]
    omega
theorem shaped_dT (l : List Int) : SeqAt.shaped (dT l) = true := by
  unfold SeqAt.shaped dT
  have := shaped_ints l
  rw [Bool.and_eq_true, PyData.canLay0, PyData.depth]
  exact ⟨this.1, decide_eq_true (by omega)⟩
theorem eqv_dT (l : List Int) : PyData.eqv (dT l) (dT l) = true := SeqAt.eqv_refl _ (SeqAt.canLay_of_shaped (shaped_dT l))
theorem shaped_nd : SeqAt.shaped (.list [.str ("not" : Str), .str ("doubt" : Str)]) = true := by decide +kernel
theorem dn_neg {ρ : Ev} {ta : TE} {i : Int} (h : Den ta ρ (.int i)) : Den (tUn (rU fun i => .int (-i)) ta) ρ (.int (-i)) := fun M σ H m e Q q => h M σ H m e _ fun v H1 e1 d1 => by
  cases d1
  exact ⟨i, rfl, q _ H1 e1 (.int _)⟩
theorem cut_abcd : cutS ("abcd" : Str) none (some 1) = Sx [97] ∧ cutS ("abcd" : Str) none (some 2) = Sx [97, 98] ∧ cutS ("abcd" : Str) none (some 3) = Sx [97, 98, 99] ∧ cutS ("abcd" : Str) none (some 4) = Sx [97, 98, 99, 100] := by decide +kernel
theorem last_at : ∀ (g : Int) (l : List Int), atI ((g :: l).map PyData.int) (-1) = some (.int (lastL g l)) := by
  have h : ∀ (l : List Int) (g : Int), (g :: l)[l.length]? = some (lastL g l) := by
    intro l
    induction l with
    | nil => intro g; rfl
    | cons a r ih => intro g; rw [List.length_cons, List.getElem?_cons_succ]; exact ih a
  intro g l
  refine atI_map (f := PyData.int) ?_
  unfold atI
  have : ixN (g :: l).length (-1) = some l.length := by
    unfold ixN
    rw [if_neg (by omega), if_pos (by rw [List.length_cons]; omega), List.length_cons]
    congr 1
    omega
  rw [this]
  exact h l g
section
variable {a : Addr} {f : Fr a} {ρ : Ev} {ta te : TE}
theorem ee_slS {s : Str} {S1 S : PyData → Prop} (h : Den ta ρ (.str s)) (h1 : DeE f te ρ S1) (hl : s.length ≤ 100000) (hs : ∀ d, S1 d → ∃ i, d = .int i ∧ S (.str (cutS s none (some i)))) : DeE f (tSl rSlS ta tNoPart (tPart te)) ρ S := fun M σ H m e st Q q =>
  h M σ H m e _ fun v H1 e1 d1 => h1 M σ H1 (m.ex e1) (e.ex e1) (f.ex st e1) _ fun d u H2 hd x2 m2 s2 d2 => by
    obtain ⟨i, rfl, si⟩ := hs d hd
    cases d1
    cases d2
    exact ⟨i, rfl, s, rfl, Evl.sz_of hl, q _ _ H2 si ((Xq.of e1).trans x2) m2 s2 (.str _)⟩
end
section
variable {P : Program} {w : World} {K : PySem.W.Frag} {mg : Str → Option Value} {base : Heap} {aR aS C fI : Addr}
def spSt (K : PySem.W.Frag) : Sp := fun vs H Q _ => ∃ (a : Addr) (ns : List Int), vs = [.ref a] ∧ SqL K H a (ns.map V.int) ∧ ∀ l p, H l = none → (upd H l (.lst (ns.map V.int))) p = none → Q (.ref p) (upd (upd H l (.lst (ns.map V.int))) p (.lst [.ref l, .int 0, .int 0]))
theorem cl__law_stream (T : Tx K mg aR aS) : Cl P w K mg base 1 "_law_stream" (spSt K) := by
  refine mk_cl T.d__law_stream sc__law_stream bd__law_stream (by rintro vs H Q E ⟨a, ns, rfl, _⟩; rfl) (fun f cdv A outer s H vs Q E hr h => ?_)
  refine ⟨_, (pss_one (ps_ret (pe_lst (pa_cons (pe_callTy (k_listOf K) (by rfl) T.n_list (by decide +kernel) (pa_cons (pv 0) pa_nil)) (pa_cons pe_int (pa_cons pe_int pa_nil)))))), ?_⟩
  obtain ⟨a, ns, rfl, hs, q⟩ := h
  exact ⟨_, rfl, a, _, rfl, .inl hs, fun l hl => ⟨Evl.sz_of (by show 3 ≤ 100000; decide), fun p hp => q l p hl hp⟩⟩
def spLaw (K : PySem.W.Frag) : Sp := fun vs H Q _ => ∃ (a : Addr) (ns : List Int), vs = [.ref a] ∧ SqL K H a (ns.map V.int) ∧ ∀ H', Q (.bl true) H'
def V0 (p : Addr) : Ev := [none, some (.r (.ref p)), none, none, none, none, none, none, none, none, none, none, none, none, none, none]
/-- the law's first row: the stream is laid -/
theorem start_law {u : TS} {vs : List V} {H : Hp} {Q : VK} {E : XK} (hu : ∀ p, DeS (fs p) u (V0 p) (fun _ => False) (· = .bool true)) (h : spLaw K vs H Q E) :
    (tSeq (tAsg (tCall (spSt K) [] E0 (tCons (tVar 0) tNil)) (gName 1)) u) { nx := fun _ H' => Q .non H', rt := Q } (L2.start ["_law_script", "_law_stream_here", "_law_expression_here", "_law_letters_here", "_law_tables_here", "_law_follow_here", "_law_sure", "_law_turn", "_law_word_here", "_law_told_here", "_law_due", "_law_behind_here", "_law_letter", "_law_right", "_law_here", "_law_place"] vs) H := by
  obtain ⟨a, ns, rfl, hs, q⟩ := h
  refine ⟨_, rfl, a, ns, rfl, hs, fun l p hl hp => ?_⟩
  have lp : l ≠ p := fun z => by rw [z, upd_same] at hp; cases hp
  let M1 : Mt := fun b => b = p
  have m1 : Mok M1 (upd (upd H l (.lst (ns.map V.int))) p (.lst [.ref l, .int 0, .int 0])) := fun b hb z => by
    rw [show b = p from hb, upd_same] at z
    cases z
  have so : StOk M1 p (upd (upd H l (.lst (ns.map V.int))) p (.lst [.ref l, .int 0, .int 0])) := ⟨rfl, l, ns, 0, 0, upd_same, fun z => lp z, by rw [upd_ne lp, upd_same]⟩
  have ev : EnvR M1 (upd (upd H l (.lst (ns.map V.int))) p (.lst [.ref l, .int 0, .int 0])) ((L2.start ["_law_script", "_law_stream_here", "_law_expression_here", "_law_letters_here", "_law_tables_here", "_law_follow_here", "_law_sure", "_law_turn", "_law_word_here", "_law_told_here", "_law_due", "_law_behind_here", "_law_letter", "_law_right", "_law_here", "_law_place"] [V.ref a]).set 1 (some (.ref p))) (V0 p) := by
    refine ⟨rfl, fun i s q => ?_⟩
    match i, q with
    | 0, q => cases q
    | 1, q => cases q; exact ⟨_, rfl, rfl⟩
    | i + 2, q =>
      have : (List.replicate 14 (none : Option Sl))[i]? = some (some s) := q
      have := List.eq_of_mem_replicate (List.mem_of_getElem? this)
      cases this
  show u { nx := fun _ H' => Q .non H', rt := Q } ((L2.start ["_law_script", "_law_stream_here", "_law_expression_here", "_law_letters_here", "_law_tables_here", "_law_follow_here", "_law_sure", "_law_turn", "_law_word_here", "_law_told_here", "_law_due", "_law_behind_here", "_law_letter", "_law_right", "_law_here", "_law_place"] [V.ref a]).set 1 (some (.ref p))) (upd (upd H l (.lst (ns.map V.int))) p (.lst [.ref l, .int 0, .int 0]))
  refine hu p M1 _ _ m1 ev so _ (fun _ _ _ g => g.elim) (fun d v H2 hd _ _ _ dv => ?_)
  subst hd
  cases dv
  exact q H2
/-- a turn where the tables are sure -/
theorem mk_ok {x : Str} {st : Stmt} {N ps : List Str} {k : Nat} {sp : Sp} {f : Addr} {fd : FuncData} (F : FnP K x st f fd) (S : FnScope N ps (defScope st)) (len : ∀ vs H Q E, sp vs H Q E → vs.length = ps.length)
    (hbody : ∀ (f : Addr) (cdv : Value) (A : Around) (outer : List Env) (s : Shared) (H : Hp) (vs : List V) (Q : VK) (E : XK), Room k (A.deeper (envOfC x (defScope st) s.heap.objs.size f cdv)) → sp vs H Q E →
      ∃ t, PSs (cxOf L2.CX0 P w K mg base N x (defScope st) f cdv A outer s H E).nox (defBody st) t ∧ t { nx := fun _ H' => Q .non H', rt := Q } (L2.start N vs) H) : FnOk P w K mg base L2.CX0 (k + 1) f fd ps sp :=
  F.ok S len fun cdv A outer s H vs Q E hr h => by
    obtain ⟨t, h1, h2⟩ := hbody f cdv A outer s H vs Q E hr h
    exact ⟨t, h1.nox, h2⟩
theorem ok_law (T : Tx K mg aR aS) (N : Nx K mg C fI) {fL : Addr} {fdL : FuncData} (FL : FnP K "law" s_law fL fdL) : FnOk P w K mg base L2.CX0 60 fL fdL ["_law_script"] (spLaw K) := by
  have c__law_stream := cl__law_stream (P := P) (w := w) (base := base) T
  have c__law_next := cl__law_next (P := P) (w := w) (base := base) T
  have c__law_expression := cl__law_expression (P := P) (w := w) (base := base) T
  have c__law_letters := cl__law_letters (P := P) (w := w) (base := base) T 40
  have c__law_tables := cl__law_tables (P := P) (w := w) (base := base) T 40
  have c__law_follow := cl__law_follow (P := P) (w := w) (base := base) T
  have c__law_conflicts := cl__law_conflicts (P := P) (w := w) (base := base) T
  have c__law_walked := cl__law_walked (P := P) (w := w) (base := base) T
  have c__law_word := cl__law_word (P := P) (w := w) (base := base) T
  have c__law_told := cl__law_told (P := P) (w := w) (base := base) T N
  have c__law_equal := cl__law_equal (P := P) (w := w) (base := base) T 2
  have c_count_markings := cl_count_markings (P := P) (w := w) (base := base) T
  have c_first_marking := cl_first_marking (P := P) (w := w) (base := base) T
  refine mk_ok FL sc_law (by rintro vs H Q E ⟨a, ns, rfl, _⟩; rfl) (fun f cdv A outer s H vs Q E hr h => ?_)
  refine ⟨_, (pss_cons (ps_set (i := 1) sc_law.nd rfl (Or.inl rfl) (pe_cl c__law_stream hr (by first | decide | omega) (by rfl) (pa_cons (pv 0) pa_nil))) (pss_cons (ps_set (i := 2) sc_law.nd rfl (Or.inl rfl) (pe_cl c__law_expression hr (by first | decide | omega) (by rfl) (pa_cons (pv 1) (pa_cons pe_int (pa_cons (pe_slice sl_str pe_str po_none (po_some (pe_op op_add pe_int (pe_cl c__law_next hr (by first | decide | omega) (by rfl) (pa_cons (pv 1) (pa_cons pe_int pa_nil)))))) pa_nil))))) (pss_cons (ps_set (i := 3) sc_law.nd rfl (Or.inr rfl) (pe_cl c__law_letters hr (by first | decide | omega) (by rfl) (pa_cons (pv 2) pa_nil))) (pss_cons (ps_set (i := 4) sc_law.nd rfl (Or.inl rfl) (pe_cl c__law_tables hr (by first | decide | omega) (by rfl) (pa_cons (pv 2) (pa_cons pe_int pa_nil)))) (pss_cons (ps_set (i := 5) sc_law.nd rfl (Or.inl rfl) (pe_cl c__law_follow hr (by first | decide | omega) (by rfl) (pa_cons (pv 4) (pa_cons (pe_callB call_len_str (by rfl) T.n_len PySem.boot_len (pa_cons (pv 3) pa_nil)) pa_nil)))) (pss_cons (ps_set (i := 6) sc_law.nd rfl (Or.inl rfl) (pe_cmpR (k_eqD K hr.units) (pe_cl c__law_conflicts hr (by first | decide | omega) (by rfl) (pa_cons (pv 4) (pa_cons (pv 3) pa_nil))) (pe_lst pa_nil) (nomark _))) (pss_cons (ps_for PassesOwn.never rfl (pi_range1 (by rfl) T.n_range (pa_cons pe_int pa_nil)) (pg_name (i := 7) sc_law.nd rfl (Or.inl rfl)) (pss_cons (ps_set (i := 8) sc_law.nd rfl (Or.inl rfl) (pe_ix (k_ixL K) (pe_lst (pa_cons (pe_cl c__law_walked hr (by first | decide | omega) (by rfl) (pa_cons (pv 1) (pa_cons (pv 4) (pa_cons (pv 3) (pa_cons pe_int pa_nil))))) (pa_cons (pe_cl c__law_word hr (by first | decide | omega) (by rfl) (pa_cons (pv 1) (pa_cons (pv 3) (pa_cons pe_int pa_nil)))) pa_nil))) (pe_cl c__law_next hr (by first | decide | omega) (by rfl) (pa_cons (pv 1) (pa_cons pe_int pa_nil))) (fun _ _ => rfl))) (pss_cons (ps_set (i := 9) sc_law.nd rfl (Or.inl rfl) (pe_cl c__law_told hr (by first | decide | omega) (by rfl) (pa_cons (pv 2) (pa_cons (pv 8) pa_nil)))) (pss_one (ps_if (pt_not (pt_val (pv 6))) (pss_one (ps_if (pt_cmpR (k_neD K hr.units) (pv 9) (pe_lst (pa_cons pe_str (pa_cons pe_str pa_nil))) (nomark _)) (pss_one (ps_ret pe_bl)) pss_nil)) (pss_cons (ps_set (i := 10) sc_law.nd rfl (Or.inl rfl) (pe_tup pa_nil)) (pss_cons (ps_set (i := 11) sc_law.nd rfl (Or.inl rfl) (pe_ix (k_ixL K) (pv 4) pe_int (fun _ _ => rfl))) (pss_cons (ps_for PassesOwn.never rfl (pi_str (pv 8)) (pg_name (i := 12) sc_law.nd rfl (Or.inr rfl)) (pss_cons (ps_setLc (i := 14) (own := [("_law_place", 15)]) rfl sc_law.nd rfl rfl (sw_true rfl rfl rfl (by decide +kernel)) (k_piL K (pv 11)) (blkOk_by (N := ["_law_script", "_law_stream_here", "_law_expression_here", "_law_letters_here", "_law_tables_here", "_law_follow_here", "_law_sure", "_law_turn", "_law_word_here", "_law_told_here", "_law_due", "_law_behind_here", "_law_letter", "_law_right", "_law_here", "_law_place"]) (sc := defScope s_law) (own := [("_law_place", 15)]) (by decide +kernel)) (fun _ _ _ _ _ => (pg_name (i := 15) sc_law.nd rfl (Or.inl rfl))) (fun _ _ _ _ _ => (pts_one (pt_cmpR op_eq (pe_ix ix_str (pv 3) (pv 15) (fun _ _ => rfl)) (pv 12) (nomark _)))) (fun _ _ _ _ _ => (pv 15))) (pss_cons (ps_set (i := 11) sc_law.nd rfl (Or.inl rfl) (pe_lst pa_nil)) (pss_one (ps_if (k_truth K (pv 14) (by intro _; rfl)) (pss_cons (ps_set (i := 10) sc_law.nd rfl (Or.inl rfl) (pe_op (k_catA K) (pv 10) (pe_tup (pa_cons (pe_ix (k_ixL K) (pv 14) pe_int (fun _ _ => rfl)) pa_nil)))) (pss_one (ps_set (i := 11) sc_law.nd rfl (Or.inl rfl) (pe_ix (k_ixL K) (pv 5) (pe_ix (k_ixL K) (pv 14) pe_int (fun _ _ => rfl)) (fun _ _ => rfl))))) pss_nil))))) (pss_cons (ps_if (pt_not (pt_val (pe_cl c__law_equal hr (by first | decide | omega) (by rfl) (pa_cons (pv 9) (pa_cons (pv 10) pa_nil))))) (pss_one (ps_ret pe_bl)) pss_nil) (pss_cons (ps_set (i := 13) sc_law.nd rfl (Or.inl rfl) (pe_and (pe_cmpR op_eq (pe_callB (k_len K) (by rfl) T.n_len PySem.boot_len (pa_cons (pv 10) pa_nil)) (pe_callB call_len_str (by rfl) T.n_len PySem.boot_len (pa_cons (pv 8) pa_nil)) (nomark _)) (pe_one (pe_ifExp (pt_cmpR op_eq (pv 8) pe_str (nomark _)) (pe_ix (k_ixL K) (pv 4) pe_int (fun _ _ => rfl)) (pe_cmpR (k_in K) (pe_ix (k_ixT K) (pv 10) (pe_un un_neg pe_int) (fun _ _ => rfl)) (pe_ix (k_ixL K) (pv 4) pe_int (fun _ _ => rfl)) (by rfl)))))) (pss_one (ps_if (PW.pt (pw_or (pt_cmpR op_ne (pe_cl c_count_markings hr (by first | decide | omega) (by rfl) (pa_cons (pv 2) (pa_cons (pv 8) pa_nil))) (pe_callTy call_int1 (by rfl) T.n_int (by decide +kernel) (pa_cons (pv 13) pa_nil)) (nomark _)) (pw_or1 (pt_cmpR (k_neD K hr.units) (pe_cl c_first_marking hr (by first | decide | omega) (by rfl) (pa_cons (pv 2) (pa_cons (pv 8) pa_nil))) (pe_ix (k_ixL K) (pe_lst (pa_cons pe_non (pa_cons (pv 10) pa_nil))) (pe_callTy call_int1 (by rfl) T.n_int (by decide +kernel) (pa_cons (pv 13) pa_nil)) (fun _ _ => rfl)) (nomark _))))) (pss_one (ps_ret pe_bl)) pss_nil)))))))))))) (pss_one (ps_ret pe_bl))))))))), ?_⟩
  refine start_law (fun p => ?_) h
  refine es_seq (es_set (S := isX) (ee_call (Pre := pEx) (S1 := fun ds => ∃ L : List Nat, 1 ≤ L.length ∧ L.length ≤ 4 ∧ (∀ c ∈ L, c ∈ LT) ∧ ds = [.int 6, .str (Sx L)]) rfl ?_ fun ds hds => ?_)) fun ρ1 h1 => ?_
  · refine fun M σ H m e s Q q => (ea_cons (ee_pure dn_int) fun _ _ => ea_cons (ee_slS (S := fun d => ∃ L : List Nat, 1 ≤ L.length ∧ L.length ≤ 4 ∧ (∀ c ∈ L, c ∈ LT) ∧ d = .str (Sx L)) dn_str (S1 := gS fun g => 1 ≤ g ∧ g ≤ 4) (ee_op (ee_pure dn_int) (fun _ _ => ee_next (n := 4) rfl (ee_pure dn_int) (by omega) (by omega)) fun x y hx hy => ?_) (by decide +kernel) fun d hd => ?_) fun _ _ => ea_pure da_nil) M σ H m e s Q fun ds vs H2 hds => q ds vs H2 ?_
    · obtain ⟨g, rfl, g0, g1⟩ := hy
      subst hx
      exact ⟨_, rd_add, _, rfl, by omega⟩
    · obtain ⟨g, rfl, g0, g1⟩ := hd
      refine ⟨g, rfl, ?_⟩
      have : g = 1 ∨ g = 2 ∨ g = 3 ∨ g = 4 := by omega
      obtain ⟨c1, c2, c3, c4⟩ := cut_abcd
      rcases this with rfl | rfl | rfl | rfl
      · exact ⟨[97], by decide, by decide, by decide, by rw [c1]⟩
      · exact ⟨[97, 98], by decide, by decide, by decide, by rw [c2]⟩
      · exact ⟨[97, 98, 99], by decide, by decide, by decide, by rw [c3]⟩
      · exact ⟨[97, 98, 99, 100], by decide, by decide, by decide, by rw [c4]⟩
    · obtain ⟨x, xs, rfl, ⟨y, ys, ⟨L, l1, l2, l3, rfl⟩, rfl, rfl⟩, rfl⟩ := hds
      exact ⟨L, l1, l2, l3, rfl⟩
  · obtain ⟨L, l1, l2, l3, rfl⟩ := hds
    exact ⟨L, l1, l2, l3, rfl, rfl⟩
  obtain ⟨d, ⟨e, rfl, gx⟩, rfl⟩ := h1
  have ok := gx.ok
  have ed := gx.d
  have okl := ok.l
  have lpos := gx.p
  have tw := tw_tab ok
  have tok := tw.ok
  have ncf := tw.nocf tab_W
  have lgb := lga_b ok 0
  obtain ⟨bF, bL, bP⟩ := lgb
  have gb := ga_b e 0 ok.w ok.l
  obtain ⟨sm, _⟩ := sim_e e 0 ok.w
  have lb : LgB (lga e 0) (lt e) := by
    refine ⟨okl, lpos, bF, fun q hq => ?_, bP, fun q hq => ?_⟩
    · rw [sm.F] at hq
      have := gb.fi q hq
      omega
    · have := (gb.pi q ((sm.Pm q).mp hq)).2
      omega
  generalize hh : lga e 0 = h at *
  refine es_seq1 (ds_set (d := .str (Sx (lt e))) (dn_call (Pre := pLet 40) (da_cons (dn_var (i := 2) rfl) da_nil) ⟨e, ed, ok, rfl, rfl⟩)) ?_
  refine es_seq1 (ds_set (d := lgD h) (dn_call (Pre := pLt 40) (da_cons (dn_var (i := 2) rfl) (da_cons dn_int da_nil)) ⟨e, 0, ed, ok, by omega, by omega, rfl, by rw [hh]⟩)) ?_
  refine es_seq1 (ds_set (d := .list ((lfw (lt e).length h.P).map dI)) (dn_call (Pre := pFol) (da_cons (dn_var (i := 4) rfl) (da_cons ((dn_cb (da_cons (dn_var (i := 3) rfl) da_nil) (rc_lenS (by rw [len_Sx]; omega))).is (by rw [len_Sx])) da_nil)) ⟨h, (lt e).length, okl, rfl, rfl⟩)) ?_
  refine es_seq1 (ds_set (d := .bool (lnocf (lt e) h)) (dx_op (dx_call (Pre := pLcf) (da_cons (dn_var (i := 4) rfl) (da_cons (dn_var (i := 3) rfl) da_nil)) ⟨lt e, h, okl, bF, lb.fi, rfl, rfl⟩) (dn_lst da_nil (Nat.zero_le _)) fun d hd => ?_)) ?_
  · obtain ⟨l, rfl, hl⟩ := hd
    refine (rd_eqD (shaped_dP l) rfl).is' ?_
    rw [← hl]
    cases l with
    | nil => rfl
    | cons _ _ => rfl
  rw [show lnocf (lt e) h = nocf (tab e) from ncf]
  have hls : (tab e).ls = lt e := rfl
  generalize ht : tab e = t at *
  let V : Option Sl → Option Sl → Option Sl → Option Sl → Option Sl → Ev := fun x7 x8 x9 x10 x11 => [none, some (.r (.ref p)), some (.d (enc e)), some (.d (.str (Sx (lt e)))), some (.d (lgD h)), some (.d (.list ((lfw (lt e).length h.P).map dI))), some (.d (.bool (nocf t))), x7, x8, x9, x10, x11, none, none, none, none]
  show DeS (fs p) _ (V none none none none none) _ _
  refine es_seq (es_for (js := [7]) (N := fun n => n ≤ 4) (fun _ ρ => ρ = V none none none none none) (ei_rng1 (ee_pure dn_int) fun d hd => ⟨4, hd, by decide, by show 4 ≤ 4; decide⟩) rfl fun n i ρ0 hn hi h0 => ?_) fun ρ1 h1 => ?_
  rotate_left
  · exact es_pureR (ds_ret dn_bl) rfl
  subst h0
  refine ⟨_, dg_name, ?_⟩
  refine es_seq (es_set (S := isW 12 (lt e)) (ee_op (S1 := fun d => ∃ w1 w2, d = .list [w1, w2] ∧ isW 12 (lt e) w1 ∧ isW 12 (lt e) w2) (ee_imp (ee_lst (ea_cons (ee_call (Pre := pWk) (S := isW 12 (lt e)) rfl (ea_pure (da_cons (dn_var (i := 4) rfl) (da_cons (dn_var (i := 3) rfl) (da_cons dn_int da_nil)))) fun ds hds => ?_) fun _ _ => ea_cons (ee_call (Pre := pWd) (S := isW 12 (lt e)) rfl (ea_pure (da_cons (dn_var (i := 3) rfl) (da_cons dn_int da_nil))) fun ds hds => ?_) fun _ _ => ea_pure da_nil) fun ds hds => ?_) fun d hd => ?_) (fun _ _ => ee_next (n := 2) rfl (ee_pure dn_int) (by omega) (by omega)) fun x y hx hy => ?_)) fun ρ1 h1 => ?_
  · subst hds
    exact ⟨h, lt e, 12, lb, by decide, rfl, rfl⟩
  · subst hds
    exact ⟨lt e, 12, lpos, okl, by decide, rfl, rfl⟩
  · obtain ⟨x, xs, _, ⟨y, ys, _, rfl, rfl⟩, rfl⟩ := hds
    show 2 ≤ 100000
    decide
  · obtain ⟨ds, ⟨x, xs, hx, ⟨y, ys, hy, rfl, rfl⟩, rfl⟩, rfl⟩ := hd
    exact ⟨x, y, rfl, hx, hy⟩
  · obtain ⟨w1, w2, rfl, i1, i2⟩ := hx
    obtain ⟨g, rfl, g0, g1⟩ := hy
    have : g = 0 ∨ g = 1 := by omega
    rcases this with rfl | rfl
    · exact ⟨w1, rd_ixL rfl, i1⟩
    · exact ⟨w2, rd_ixL rfl, i2⟩
  obtain ⟨d, ⟨w, rfl, wl, wa⟩, rfl⟩ := h1
  have wok : WOk w := ⟨by omega, fun c hc => gx.a c (wa c hc)⟩
  refine es_imp (G := (· = V none none none none none)) (es_pure ?_) fun ρ' h => ⟨ρ', .refl _, h⟩
  refine ds_seq (ds_set (dn_call (Pre := pTold) (da_cons (dn_var (i := 2) rfl) (da_cons (dn_var (i := 8) rfl) da_nil)) ⟨e, w, ed, ok, wok, rfl, rfl⟩)) ?_
  rw [ht]
  have h6 : ∀ (ρ : Ev) (b : Bool), ρ[6]? = some (some (.d (.bool (nocf t)))) → nocf t = b → DenT (tNot (tB (tVar 6))) ρ (!b) := fun ρ b h6 hb => by
    subst hb
    exact dt_not (dt_B (dn_var h6))
  cases hc : nocf t with
  | false =>
    rw [if_neg Bool.false_ne_true]
    refine ds_le (ds_ifT (h6 _ false rfl hc) (ds_ifF (dt_test ((dn_op (dn_var (i := 9) rfl) (dn_lst (da_cons dn_str (da_cons dn_str da_nil)) (by show 2 ≤ 100000; decide)) (rd_neD shaped_nd shaped_nd)).is (by rw [SeqAt.eqv_refl _ (SeqAt.canLay_of_shaped shaped_nd)]; rfl))) ds_next)) (by simp [LeE, V])
  | true =>
    have su := sure_of tok hc
    rw [if_pos rfl]
    refine ds_ifF (h6 _ true rfl hc) ?_
    generalize hR : rdw t t.F w = R
    let U : PyData → PyData → Option Sl → Ev := fun du bh x13 => [none, some (.r (.ref p)), some (.d (enc e)), some (.d (.str (Sx (lt e)))), some (.d (lgD h)), some (.d (.list ((lfw (lt e).length h.P).map dI))), some (.d (.bool (nocf t))), some (.d (.int i)), some (.d (.str (Sx w))), some (.d (dT R)), some (.d du), some (.d bh), none, x13, none, none]
    refine ds_seq (ds_set (d := dT []) (dn_tup da_nil (Nat.zero_le _))) ?_
    refine ds_seq (ds_set (d := dI h.F) (dn_ixL (dn_var (i := 4) rfl) rfl)) ?_
    let st : Nat → List Int × List Int := fun i => (w.take i).foldl (dstep (lt e) h.P) ([], h.F)
    have stb : ∀ i, (st i).1.length ≤ i ∧ (st i).2.length ≤ 10 ∧ ∀ q ∈ (st i).2, 0 ≤ q ∧ q < ((lt e).length : Int) := by
      intro i
      have : ∀ (m : List Nat) (s : List Int × List Int), (s.2.length ≤ 10 ∧ ∀ q ∈ s.2, 0 ≤ q ∧ q < ((lt e).length : Int)) → (m.foldl (dstep (lt e) h.P) s).1.length ≤ s.1.length + m.length ∧ (m.foldl (dstep (lt e) h.P) s).2.length ≤ 10 ∧ ∀ q ∈ (m.foldl (dstep (lt e) h.P) s).2, 0 ≤ q ∧ q < ((lt e).length : Int) := by
        intro m
        induction m with
        | nil => intro s hs; exact ⟨by simp, hs⟩
        | cons c r ih =>
          intro s hs
          have h1 : (dstep (lt e) h.P s c).1.length ≤ s.1.length + 1 ∧ (dstep (lt e) h.P s c).2.length ≤ 10 ∧ ∀ q ∈ (dstep (lt e) h.P s c).2, 0 ≤ q ∧ q < ((lt e).length : Int) := by
            unfold dstep
            split
            · exact ⟨by simp, by simp, by simp⟩
            · rename_i g gs hg
              refine ⟨by simp, ?_, fun q hq => places_bd (List.mem_filter.mp hq).1⟩
              have := List.length_filter_le (fun b => decide ((g, b) ∈ h.P)) (places (lt e).length)
              rw [places_len] at this
              exact Nat.le_trans this okl
          obtain ⟨h2, h3⟩ := ih _ h1.2
          rw [List.foldl_cons, List.length_cons]
          exact ⟨by omega, h3⟩
      obtain ⟨h1, h2⟩ := this (w.take i) ([], h.F) ⟨bF, lb.fi⟩
      refine ⟨?_, h2⟩
      rw [List.length_take] at h1
      show (List.foldl (dstep (lt e) h.P) ([], h.F) (w.take i)).1.length ≤ i
      simp at h1
      omega
    let I : Nat → Ev := fun i => U (dT (st i).1) (dI (st i).2) none
    refine ds_seq (ρ1 := I (sgn (Sx w)).length) ?_ ?_
    · show DenS _ (I 0) _
      refine ds_forX I (js := [12]) (di_str (dn_var (i := 8) rfl)) fun k d hdk => ?_
      rw [sgn_Sx, List.getElem?_map] at hdk
      cases hcw : w[k]? with
      | none => rw [hcw] at hdk; cases hdk
      | some c =>
        rw [hcw] at hdk
        cases hdk
        have kl := (List.getElem?_eq_some_iff.mp hcw).1
        obtain ⟨s1, s2, s3⟩ := stb k
        have hst : st (k + 1) = dstep (lt e) h.P (st k) c := by
          show (w.take (k + 1)).foldl _ _ = _
          rw [take_succ_get hcw, List.foldl_append]
          rfl
        have hI : I (k + 1) = U (dT (dstep (lt e) h.P (st k) c).1) (dI (dstep (lt e) h.P (st k) c).2) none := by
          show U (dT (st (k + 1)).1) _ _ = _
          rw [hst]
        have hI0 : I k = U (dT (st k).1) (dI (st k).2) none := rfl
        refine ⟨(I k).set 12 (some (.d (.str (Sx [c])))), dg_name, ?_⟩
        rw [hI, hI0]
        generalize st k = s at *
        refine ds_seq (ds_set (d := dI (s.2.filter fun q => decide (atL (lt e) q = c))) (dn_lc s.2 .int _ .int (fun q => [none, some (.r (.ref p)), some (.d (enc e)), some (.d (.str (Sx (lt e)))), some (.d (lgD h)), some (.d (.list ((lfw (lt e).length h.P).map dI))), some (.d (.bool (nocf t))), some (.d (.int i)), some (.d (.str (Sx w))), some (.d (dT R)), some (.d (dT s.1)), some (.d (dI s.2)), some (.d (.str (Sx [c]))), none, none, some (.d (.int q))])
          (di_list (dn_var (i := 11) rfl)) (fun q hq => dg_name) (fun q hq => dt_test (dn_op (dn_letL okl (dn_var (i := 3) rfl) (dn_var (i := 15) rfl) (s3 q hq).1 (s3 q hq).2) (dn_var (i := 12) rfl) rd_eqL)) (fun q hq _ => dn_var (i := 15) rfl) (by omega))) ?_
        refine ds_seq (ds_set (d := dI []) dn_nilI) ?_
        cases hf : s.2.filter fun q => decide (atL (lt e) q = c) with
        | nil =>
          have e1 : dstep (lt e) h.P s c = (s.1, []) := by unfold dstep; simp only [hf]
          rw [e1]
          exact ds_le (ds_ifF (dk_truth (b := false) (dn_var (i := 14) rfl) rfl (fun s z => absurd z dI_ns)) ds_next) (by simp [LeE, U])
        | cons g gs =>
          have e1 : dstep (lt e) h.P s c = (s.1 ++ [g], lgo (lt e).length h.P g) := by unfold dstep; simp only [hf]
          have mem : g ∈ s.2 := (List.mem_filter.mp (by rw [hf]; simp)).1
          obtain ⟨g0, g1⟩ := s3 g mem
          rw [e1]
          refine ds_le (ds_ifT (dk_truth (b := true) (dn_var (i := 14) rfl) rfl (fun s z => absurd z dI_ns)) (ds_seq (ds_set (d := dT (s.1 ++ [g])) ((dn_op (dn_var (i := 10) rfl) (dn_tup (da_cons (dn_ixL (dn_var (i := 14) rfl) at0) da_nil) (by show 1 ≤ 100000; decide)) (rd_catA (by rw [List.length_map]; show _ + 1 ≤ _; omega))).is ?_)) (ds_set (d := dI (lgo (lt e).length h.P g)) (dn_op (dn_var (i := 5) rfl) (dn_ixL (dn_var (i := 14) rfl) at0) (rd_ixL ?_))))) (by simp [LeE, U])
          · unfold dT
            rw [List.map_append]
            rfl
          · have hl : (lfw (lt e).length h.P).length = (lt e).length := by unfold lfw; rw [List.length_map, places_len]
            have a1 := atI_in (l := lfw (lt e).length h.P) [] g0 (by rw [hl]; exact g1)
            have a2 : (lfw (lt e).length h.P).getD g.toNat [] = lgo (lt e).length h.P g := by
              unfold lfw places
              rw [List.getD_eq_getElem?_getD, List.getElem?_map, List.getElem?_map, List.getElem?_range (by omega)]
              show (places (lt e).length).filter (fun b => decide ((((g.toNat : Nat) : Int), b) ∈ h.P)) = _
              rw [Int.toNat_of_nonneg g0]
              rfl
            rw [a2] at a1
            exact atI_map a1
    · have hdue : (st (sgn (Sx w)).length).1 = R := by
        show (List.foldl (dstep (lt e) h.P) ([], h.F) (w.take _)).1 = R
        rw [sgn_Sx, List.length_map, List.take_length, ← hR]
        have := due_is tw su w [] h.F t.F tw.F su.F
        rw [hls, List.nil_append] at this
        exact this
      have rl : R.length ≤ w.length := by
        rw [← hdue]
        have := (stb (sgn (Sx w)).length).1
        rw [sgn_Sx, List.length_map] at this ⊢
        exact this
      have hIe : I (sgn (Sx w)).length = U (dT R) (dI (st (sgn (Sx w)).length).2) none := by
        show U (dT (st (sgn (Sx w)).length).1) _ _ = _
        rw [hdue]
      rw [hIe]
      generalize dI (st (sgn (Sx w)).length).2 = bh
      refine ds_seq (ds_ifF ((dt_not (a := true) (dt_B (dn_call (Pre := pLeq 2) (da_cons (dn_var (i := 9) rfl) (da_cons (dn_var (i := 10) rfl) da_nil)) (.inr ⟨R, by decide, by omega, rfl, rfl⟩)))).is rfl) ds_next) ?_
      have rt : right t w = (decide ((R.length : Int) = (w.length : Int)) && if w.isEmpty then h.b else decide (lastL 0 R ∈ h.L)) := by
        unfold right
        rw [hR, tw.b]
        congr 1
        · rw [decide_eq_decide]
          omega
        · cases w.isEmpty with
          | true => rfl
          | false =>
            show decide (lastL 0 R ∈ t.L) = decide (lastL 0 R ∈ h.L)
            rw [decide_eq_decide]
            exact (tw.L _).symm
      have weq : decide (Sx w = ("" : Str)) = w.isEmpty := by
        rw [empty_is]
        cases w with
        | nil => simp
        | cons a r => exact decide_eq_false fun z => nomatch (Sx_inj.mp z)
      refine ds_seq (ds_set (d := .bool (right t w)) ((dn_andV (a := decide ((R.length : Int) = (w.length : Int))) (b := if w.isEmpty then h.b else decide (lastL 0 R ∈ h.L)) (dn_op (dk_len (dn_var (i := 10) rfl) (by simp [dT, lenD])) ((dn_cb (da_cons (dn_var (i := 8) rfl) da_nil) (rc_lenS (by rw [len_Sx]; omega))).is (by rw [len_Sx])) rd_eqI) fun ha => ?_).is (by rw [rt]))) ?_
      · refine dn_if (b := w.isEmpty) (dt_test ((dn_op (dn_var (i := 8) rfl) dn_str rd_eqS).is (by rw [weq]))) (fun hw => ?_) fun hw => ?_
        · rw [if_pos hw]
          exact dn_ixL (dn_var (i := 4) rfl) rfl
        · rw [if_neg (by rw [hw]; exact Bool.false_ne_true)]
          have hlen : (R.length : Int) = (w.length : Int) := of_decide_eq_true ha
          cases R with
          | nil =>
            cases w with
            | nil => cases hw
            | cons _ _ => simp at hlen; omega
          | cons g l => exact dn_op (dn_op (dn_var (i := 10) rfl) (dn_neg dn_int) (rd_ixT (last_at g l))) (dn_ixL (z := dI h.L) (dn_var (i := 4) rfl) rfl) rd_inIL
      have hcm := cm_is su w
      have hfm := fm_is su w
      rw [hR] at hfm
      have one := one_sure su w
      refine ds_le (ds_ifF ((dt_or (a := false) (b := false) (dt_test ((dn_op (dn_call (Pre := pCm) (da_cons (dn_var (i := 2) rfl) (da_cons (dn_var (i := 8) rfl) da_nil)) ⟨e, w, ed, ok, wok, by rw [ht]; exact one, rfl, rfl⟩) (dn_cb (da_cons (dn_var (i := 13) rfl) da_nil) rc_intB) rd_neI).is ?_)) fun _ => dt_test ((dn_op (dn_call (Pre := pFm) (da_cons (dn_var (i := 2) rfl) (da_cons (dn_var (i := 8) rfl) da_nil)) ⟨e, w, ed, ok, wok, by rw [ht]; exact one, rfl, rfl⟩) (dn_op (dn_lst (da_cons dn_non (da_cons (dn_var (i := 10) rfl) da_nil)) (by show 2 ≤ 100000; decide)) (dn_cb (da_cons (dn_var (i := 13) rfl) da_nil) rc_intB) (rd_ixL (z := if right t w then dT R else .none) ?_)) (rd_neD ?_ ?_)).is ?_)).is rfl) ds_next) (by simp [LeE, U, V])
      · rw [ht, hcm]
        simp
      · cases right t w <;> rfl
      · rw [ht, hfm]
        cases right t w
        · rfl
        · exact shaped_dT R
      · cases right t w
        · rfl
        · exact shaped_dT R
      · rw [ht, hfm]
        cases right t w
        · rfl
        · simp [eqv_dT]
end
end Nd
set_option Elab.async false
set_option linter.all false
set_option maxRecDepth 100000
set_option maxHeartbeats 0
/-! The head: what the top leaves, by facts; the end. -/
namespace Nd
open PySem PySem.Spec PyProof.Rows L2
def dfOf (x : Str) (i : Nat) : He.DefD := ⟨(x, none), x, x, defArgs (topS i), defBody (topS i), defScope (topS i), [], []⟩
def dIni : He.DefD := ⟨("NotPossible", some "__init__"), "__init__", "NotPossible.__init__", defArgs iniS, defBody iniS, defScope iniS, [], []⟩
def fnH : List He.DefD := [dfOf "is_leaf" 12, dfOf "has_form" 13, dfOf "parts_of" 14, dfOf "letters_of" 15, dfOf "count_of" 16, dfOf "is_long" 17, dfOf "is_word" 18, dfOf "check_long" 19, dfOf "check_word" 20, dfOf "has_empty" 21, dfOf "gathered" 23, dfOf "ordered" 24, dfOf "tables_of" 25, dfOf "next_places" 26, dfOf "rows_of" 27, dfOf "check_both" 28, dfOf "counts_of" 29, dfOf "count_markings" 30, dfOf "first_marking" 31, dfOf "pairs_in" 33, dfOf "conflicts_in" 34, dfOf "places_read" 35, dfOf "_law_stream" 37, dfOf "_law_next" 38, dfOf "_law_is_integer" 39, dfOf "_law_equal" 40, dfOf "_law_row" 41, dfOf "_law_expression" 42, dfOf "_law_letters" 43, dfOf "_law_tables" 47, dfOf "_law_word" 49, dfOf "_law_walked" 50, dfOf "_law_follow" 51, dfOf "_law_pairs" 52, dfOf "_law_conflicts" 53, dfOf "_law_told" 56, dfOf "law" 57, dIni]
def fa1 : List He.Fa := [.glo "is_leaf", .glo "has_form", .glo "parts_of", .glo "letters_of", .glo "count_of", .glo "is_long", .glo "is_word", .glo "check_long", .glo "check_word", .glo "has_empty", .glo "gathered", .glo "ordered", .glo "tables_of", .glo "next_places", .glo "rows_of", .glo "check_both", .glo "counts_of", .glo "count_markings", .glo "first_marking", .glo "pairs_in", .glo "conflicts_in", .glo "places_read", .glo "_law_stream", .glo "_law_next", .glo "_law_is_integer", .glo "_law_equal", .glo "_law_row", .glo "_law_expression", .glo "_law_letters"]
def fa2 : List He.Fa := [.glo "_law_tables", .glo "_law_word", .glo "_law_walked", .glo "_law_follow", .glo "_law_pairs", .glo "_law_conflicts", .glo "_law_told", .glo "law", .int "LONGEST_WORD" 24, .int "MOST_LONG_LETTERS" 40, .int "DEEPEST_LONG" 40, .int "MOST_LONG_PARTS" 200, .str "LETTERS" "abcd", .glo "ROWS", .glo "SINGLES", .glo "NotPossible", .free "isinstance", .free "len", .free "all", .free "any", .free "sum", .free "sorted", .free "abs", .free "int", .free "str", .free "bool", .free "tuple", .free "list", .free "range"]
def faH : List He.Fa := fa1 ++ fa2
def lo1 : List Str := ["DoubtError", "BadValue", "NotPossible", "LETTERS", "LONGEST_WORD", "MOST_LONG_LETTERS", "DEEPEST_LONG", "MOST_LONG_PARTS", "ROWS", "SINGLES", "is_leaf", "has_form", "parts_of", "letters_of", "count_of", "is_long", "is_word", "check_long", "check_word", "has_empty"]
def lo2 : List Str := ["gathered", "ordered", "tables_of", "next_places", "rows_of", "check_both", "counts_of", "count_markings", "first_marking", "pairs_in", "conflicts_in", "places_read", "_law_stream", "_law_next", "_law_is_integer", "_law_equal", "_law_row", "_law_expression", "_law_letters", "_law_parts"]
def lo3 : List Str := ["_law_ends", "_law_is_marking", "_law_tables", "_law_behind", "_law_word", "_law_walked", "_law_follow", "_law_pairs", "_law_conflicts", "_law_begins", "_law_doubt", "_law_told"]
def loH : List Str := lo1 ++ (lo2 ++ lo3)
/-- an exception's class with an own __init__, below ValueError -/
def clsB (K : PySem.W.Frag) (C : Addr) : Bool := match K.lookup C with
  | some ⟨.type t, _, .cls cd, sl⟩ => (match cd.mro, sl.toList with
    | .ref D :: bm, [_, _, _, _, some (.builtin n), _] => decide (t = "type") && (decide (D = C) && (decide (n = "ValueError.__new__") && (!cd.hasDel && (cd.hasDict && PySem.HandSPX.refsVE bm))))
    | _, _ => false)
  | _ => false
theorem clsB_ok {K : PySem.W.Frag} {C : Addr} (h : clsB K C = true) : ∃ nm q N bs bm sn sub ab col dd k0 k1 k2 k3 k5, K.lookup C = some (PySem.excClassObj nm q C N bs bm true sn sub ab col dd k0 k1 k2 k3 k5 "ValueError.__new__") ∧ PySem.HandSPX.refsVE bm = true := by
  unfold clsB at h
  split at h
  · rename_i t dd cd sl look
    split at h
    · rename_i D bm k0 k1 k2 k3 n k5 hm hs
      obtain ⟨h0, h⟩ := He.ba h
      obtain ⟨h1, h⟩ := He.ba h
      obtain ⟨h2, h⟩ := He.ba h
      obtain ⟨h3, h⟩ := He.ba h
      obtain ⟨h4, h5⟩ := He.ba h
      have h0 := of_decide_eq_true h0
      have h1 := of_decide_eq_true h1
      have h2 := of_decide_eq_true h2
      subst h0 h1 h2
      obtain ⟨nm, bs, mro, ns, qn, hd, sn, sub, ab, col, del⟩ := cd
      have h3 : del = false := by simpa using h3
      have h4 : hd = true := h4
      have hm : mro = .ref D :: bm := hm
      subst h3 h4 hm
      obtain ⟨l⟩ := sl
      have hs : l = [k0, k1, k2, k3, some (.builtin "ValueError.__new__"), k5] := hs
      subst hs
      exact ⟨nm, qn, ns, bs, bm, sn, sub, ab, col, dd, k0, k1, k2, k3, k5, look, h5⟩
    · cases h
  · cases h
/-- the facts beyond He.Fa -/
def xL (K : PySem.W.Frag) : List Bool := [He.tupB K "ROWS" [.str "join", .str "or"], He.tupB K "SINGLES" [.str "maybe", .str "many"], clsB K (He.ga K "NotPossible"),
  He.eqO (PySem.W.findIn K (.ref (He.ga K "NotPossible")) "__setattr__") (some (some (.builtin "object.__setattr__"))), decide (PySem.W.subIn K (.ref (He.ga K "NotPossible")) (.type "BaseException") = some true),
  decide (PySem.W.typeIn K (.ref (He.ga K "NotPossible")) = some (.type "type")), PySem.W.keepIn K (.ref (He.ga K "NotPossible")), xfB K (He.ga K "NotPossible"),
  He.eqO (PySem.W.findIn K (.ref (He.ga K "NotPossible")) "__init__") (some (some (.ref (He.ma K (He.ga K "NotPossible") "__init__")))), decide (PySem.W.typeIn K (.ref (He.ma K (He.ga K "NotPossible") "__init__")) = some (.type "function")),
  He.eqO (PySem.W.findIn K (.ref (He.ga K "NotPossible")) "why") (some none), decide (PySem.W.exmOne K (.ref (He.ga K "NotPossible")) (.ref (He.ga K "NotPossible")) = some true)]
def xB (K : PySem.W.Frag) : Bool := (xL K).all id
theorem x_at {K : PySem.W.Frag} (x : xB K = true) (i : Nat) {b : Bool} (h : (xL K)[i]? = some b) : b = true := List.all_eq_true.mp x b (List.mem_of_getElem? h)
theorem df_of {K : PySem.W.Frag} {h : Heap} {mg : Str → Option Value} (X : K.In h) (G : h.Ns mainGlobals mg) (c : He.SaysD faH fnH K) {x : Str} {j : Nat} (i k : Nat) (hd : fnH[i]? = some (dfOf x j)) (hf : faH[k]? = some (.glo x)) : Df K mg x (topS j) := by
  obtain ⟨fd, F⟩ := c.def_ i hd
  exact ⟨_, fd, F, He.glo_ok X G (c.fact k hf)⟩

theorem tx_of {K : PySem.W.Frag} {h : Heap} {mg : Str → Option Value} (X : K.In h) (G : h.Ns mainGlobals mg) (x : xB K = true) (c : He.SaysD faH fnH K) : Tx K mg (He.ga K "ROWS") (He.ga K "SINGLES") where
  d_is_leaf := df_of X G c 0 0 rfl rfl
  d_has_form := df_of X G c 1 1 rfl rfl
  d_parts_of := df_of X G c 2 2 rfl rfl
  d_letters_of := df_of X G c 3 3 rfl rfl
  d_count_of := df_of X G c 4 4 rfl rfl
  d_is_long := df_of X G c 5 5 rfl rfl
  d_is_word := df_of X G c 6 6 rfl rfl
  d_check_long := df_of X G c 7 7 rfl rfl
  d_check_word := df_of X G c 8 8 rfl rfl
  d_has_empty := df_of X G c 9 9 rfl rfl
  d_gathered := df_of X G c 10 10 rfl rfl
  d_ordered := df_of X G c 11 11 rfl rfl
  d_tables_of := df_of X G c 12 12 rfl rfl
  d_next_places := df_of X G c 13 13 rfl rfl
  d_rows_of := df_of X G c 14 14 rfl rfl
  d_check_both := df_of X G c 15 15 rfl rfl
  d_counts_of := df_of X G c 16 16 rfl rfl
  d_count_markings := df_of X G c 17 17 rfl rfl
  d_first_marking := df_of X G c 18 18 rfl rfl
  d_pairs_in := df_of X G c 19 19 rfl rfl
  d_conflicts_in := df_of X G c 20 20 rfl rfl
  d_places_read := df_of X G c 21 21 rfl rfl
  d__law_stream := df_of X G c 22 22 rfl rfl
  d__law_next := df_of X G c 23 23 rfl rfl
  d__law_is_integer := df_of X G c 24 24 rfl rfl
  d__law_equal := df_of X G c 25 25 rfl rfl
  d__law_row := df_of X G c 26 26 rfl rfl
  d__law_expression := df_of X G c 27 27 rfl rfl
  d__law_letters := df_of X G c 28 28 rfl rfl
  d__law_tables := df_of X G c 29 29 rfl rfl
  d__law_word := df_of X G c 30 30 rfl rfl
  d__law_walked := df_of X G c 31 31 rfl rfl
  d__law_follow := df_of X G c 32 32 rfl rfl
  d__law_pairs := df_of X G c 33 33 rfl rfl
  d__law_conflicts := df_of X G c 34 34 rfl rfl
  d__law_told := df_of X G c 35 35 rfl rfl
  d_law := df_of X G c 36 36 rfl rfl
  kLETTERS := by
    obtain ⟨t, e⟩ := He.str_ok X G (c.fact 41 (f := .str "LETTERS" "abcd") rfl)
    exact ⟨_, e, t, rfl⟩
  kLONGEST_WORD := by
    obtain ⟨t, e⟩ := He.int_ok X G (c.fact 37 (f := .int "LONGEST_WORD" 24) rfl)
    exact ⟨_, e, t, rfl⟩
  kMOST_LONG_LETTERS := by
    obtain ⟨t, e⟩ := He.int_ok X G (c.fact 38 (f := .int "MOST_LONG_LETTERS" 40) rfl)
    exact ⟨_, e, t, rfl⟩
  kDEEPEST_LONG := by
    obtain ⟨t, e⟩ := He.int_ok X G (c.fact 39 (f := .int "DEEPEST_LONG" 40) rfl)
    exact ⟨_, e, t, rfl⟩
  kMOST_LONG_PARTS := by
    obtain ⟨t, e⟩ := He.int_ok X G (c.fact 40 (f := .int "MOST_LONG_PARTS" 200) rfl)
    exact ⟨_, e, t, rfl⟩
  kROWS := ⟨_, He.glo_ok X G (c.fact 42 (f := .glo "ROWS") rfl), rfl⟩
  kSINGLES := ⟨_, He.glo_ok X G (c.fact 43 (f := .glo "SINGLES") rfl), rfl⟩
  sROWS := fun H => He.tupB_ok (x_at x 0 rfl) H
  sSINGLES := fun H => He.tupB_ok (x_at x 1 rfl) H
  n_isinstance := He.free_ok X G (c.fact 45 (f := .free "isinstance") rfl)
  n_len := He.free_ok X G (c.fact 46 (f := .free "len") rfl)
  n_all := He.free_ok X G (c.fact 47 (f := .free "all") rfl)
  n_any := He.free_ok X G (c.fact 48 (f := .free "any") rfl)
  n_sum := He.free_ok X G (c.fact 49 (f := .free "sum") rfl)
  n_sorted := He.free_ok X G (c.fact 50 (f := .free "sorted") rfl)
  n_abs := He.free_ok X G (c.fact 51 (f := .free "abs") rfl)
  n_int := He.free_ok X G (c.fact 52 (f := .free "int") rfl)
  n_str := He.free_ok X G (c.fact 53 (f := .free "str") rfl)
  n_bool := He.free_ok X G (c.fact 54 (f := .free "bool") rfl)
  n_tuple := He.free_ok X G (c.fact 55 (f := .free "tuple") rfl)
  n_list := He.free_ok X G (c.fact 56 (f := .free "list") rfl)
  n_range := He.free_ok X G (c.fact 57 (f := .free "range") rfl)
theorem np_glo {K : PySem.W.Frag} {h : Heap} {mg : Str → Option Value} (X : K.In h) (G : h.Ns mainGlobals mg) (c : He.SaysD faH fnH K) : mg "NotPossible" = some (.ref (He.ga K "NotPossible")) := He.glo_ok X G (c.fact 44 (f := .glo "NotPossible") rfl)
theorem ini_of {K : PySem.W.Frag} (c : He.SaysD faH fnH K) : ∃ fd, FunD K "__init__" "NotPossible.__init__" (defArgs iniS) (defBody iniS) (defScope iniS) [] [] (He.ma K (He.ga K "NotPossible") "__init__") fd := c.def_ 37 (d := dIni) rfl
def lawI : Nat := 57
theorem nx_of {K : PySem.W.Frag} {h : Heap} {mg : Str → Option Value} (X : K.In h) (G : h.Ns mainGlobals mg) (x : xB K = true) (c : He.SaysD faH fnH K) : Nx K mg (He.ga K "NotPossible") (He.ma K (He.ga K "NotPossible") "__init__") where
  oex := ⟨clsB_ok (x_at x 2 rfl), He.eqO_ok (x_at x 3 rfl), of_decide_eq_true (x_at x 4 rfl), of_decide_eq_true (x_at x 5 rfl), x_at x 6 rfl⟩
  gC := np_glo X G c
  iC := He.eqO_ok (x_at x 8 rfl)
  tI := of_decide_eq_true (x_at x 9 rfl)
  ini := ini_of c
  xf := xfB_ok (x_at x 7 rfl)
  no := He.eqO_ok (x_at x 10 rfl)
  te := of_decide_eq_true (x_at x 11 rfl)
abbrev RH : PySem.W.OpenRow := PySem.W.OpenLaw.row PySem.Challenge.rw_nodoubt_k22_whole_read_words
def obH (n : Nat) (g : Addr → Option Obj) : Bool × He.AlD := (xB (He.frG g (He.asD g n)), He.obsDG n faH fnH g)
def hkH : PySem.W.Hook where
  α := Bool × He.AlD
  obs := fun s => obH 5 s.heap.get?
  val := fun _ => (true, He.valD fnH)
  says := fun _ h => ∃ K : PySem.W.Frag, K.In h ∧ xB K = true ∧ He.SaysD faH fnH K
  of := fun _ _ e => ⟨_, He.frG_in, congrArg (fun z : Bool × He.AlD => z.1) e, congrArg (fun z : Bool × He.AlD => z.2) e⟩
  keeps := fun _ _ _ ⟨K, hK, x, c⟩ k => ⟨K, PySem.W.Frag.In.keeps hK k, x, c⟩
def obT (s : PySem.W.SharedT) : Bool × He.AlD := obH 5 (HandSHeadRun.getT s)
theorem obT_eq (s : PySem.W.SharedT) : obT s = hkH.obs s.abs := by
  have e : HandSHeadRun.getT s = s.abs.heap.get? := funext (HandSHeadRun.getT_eq s)
  unfold obT
  rw [e]
  rfl
theorem runH (w : World) : HandSHeadRun.RunEq RH (PySem.W.view RH.prog [57]) hkH obT 4000 loH w := by
  intro os
  kernel_rfl
end Nd
set_option Elab.async false
set_option linter.all false
set_option maxRecDepth 100000
set_option maxHeartbeats 0
/-! The end. -/
namespace Nd
open PySem PySem.Spec PyProof.Rows L2
theorem end_of {P : Program} {w : World} {K : PySem.W.Frag} {h : Heap} {mg : Str → Option Value} {f : Addr} (X : K.In h) (G : h.Ns mainGlobals mg) (hfa : mg ("law" : Str) = some (.ref f)) (x : xB K = true) (c : He.SaysD faH fnH K) :
    ∃ fd : FuncData, (∀ (s : Shared) (v : Value), BindsTo s fd ⟨[v], []⟩ [(("_law_script" : Str), v)]) ∧ ∀ base : Heap, K.In base → base.Ns mainGlobals mg → FnOk P w K mg base L2.CX0 60 f fd ["_law_script"] (spLaw K) := by
  have T := tx_of X G x c
  have N := nx_of X G x c
  obtain ⟨f', fd, F, m⟩ := T.d_law.ex
  have e := hfa.symm.trans m
  cases e
  have b := FunD.bindsA (ps := ["_law_script"]) F fun kV doc pm an cdv ct us hl => bd_law kV doc pm an cdv ct us hl
  exact ⟨fd, fun s v => b s [v] rfl, fun base _ _ => ok_law T N F⟩
end Nd
open PySem PySem.W PySem.Calls PyProof.Rows
theorem PySem.Challenge.cw_nodoubt_k22_whole_read_words_holds : PySem.Challenge.rw_nodoubt_k22_whole_read_words.Holds := by
  w_on; o_law
  refine HandSHeadRun.head_any (r := OpenLaw.row PySem.Challenge.rw_nodoubt_k22_whole_read_words) (q := view (OpenLaw.row PySem.Challenge.rw_nodoubt_k22_whole_read_words).prog [57]) (H := Nd.hkH) (ob := Nd.obT) (M := 4000) (loose := Nd.loH) (d := HandSHeadRun.topDef (OpenLaw.row PySem.Challenge.rw_nodoubt_k22_whole_read_words).prog 57) (kwd := []) Nd.obT_eq
    (by kernel_rfl) (fun s => by kernel_rfl) Nd.runH (by kernel_rfl) (by kernel_rfl) (by kernel_rfl) (by rfl) (by first | assumption | decide +kernel) (by decide +kernel) ⟨rfl, rfl, rfl, rfl, rfl, by decide +kernel⟩ ?hw ?hc
  case hw => w_witness2
  case hc =>
    refine L2.walk_ofE (l := PySem.Challenge.rw_nodoubt_k22_whole_read_words) (n := 63) (k := 60) (x := "_law_script") (CX := L2.CX0) rfl (by decide) (by kernel_rfl) ⟨rfl, by decide, by decide⟩ ?F (fun _ _ _ _ z => z)
    intro w mg fa h Y G hmg0
    obtain ⟨K, KX, x, c⟩ := Y
    have hmg : mg ("law" : PySem.Str) = some (.ref fa) := by
      have e : (HandSHeadRun.topDef (OpenLaw.row PySem.Challenge.rw_nodoubt_k22_whole_read_words).prog 57).name = ("law" : PySem.Str) := by kernel_rfl
      rw [← e]
      exact hmg0
    obtain ⟨fd, hb, hF⟩ := Nd.end_of (P := (PySem.Challenge.rw_nodoubt_k22_whole_read_words).prog) (w := w) KX G hmg x c
    exact ⟨K, fd, Nd.spLaw K, KX, hb, fun H a ns hl _ hS => ⟨a, ns, rfl, hS, fun _ => rfl⟩, hF⟩
