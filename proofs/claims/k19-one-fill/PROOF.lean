import PyProof.Rows.All
import Wide.All
import OpenK.AllK
import Wide.FinOn
import KE.KStateDown
import HandS.ForExc
import HandS.Defaults
import HandS.Head0
import HandS.Head1
import HandS.Head2
import HandS.HeadEnd
import HandS.HeadHook1
import HandS.HeadHook2
import HandS.HeadHook3
import HandS.ForMost
import HandS.Flow
import HandS.Wide
import HandS.ExcInit
import HandS.ExcOwn
import HandS.Deep
import HandS.TupAny
import HandS.TupMul
import HandS.Codes
import PyProof.ReprRoads
import HandS.Conv
import OpenK.KMore
import HandS.RaiseMore
import HandS.Iter
import HandS.Comp
import HandS.ExcField
import HandS.ExcIs
import HandS.IsInst
import KE.KExcIs
import HandS.Ends
import PyProof.ReprBulk
import PyProof.FitsInt
import HandS.Style
import HandS.TupLe
import PyProof.FString2
import PyProof.FactsAll.bool_2
import HandS.More
import HandS.Property
import HandS.MakeKw
import HandS.Text
import HandS.TryMany
import HandS.Strs
import HandS.SetKeys
import KE.SortData
import HandS.Star
import PyProof.InstEq
import HandS.SlotsOwn
import HandS.Set
import HandS.SetBool
import OpenK.KMeth
import PySem.Challenge.RW_dividersteps_k19_one_fill
set_option Elab.async false
set_option linter.all false
set_option maxRecDepth 100000
set_option maxHeartbeats 0

namespace DL
open PySem PySem.Spec PyProof.Rows L2

/-! ## data, and how the heap bears it -/
inductive D where
  | non | bl (b : Bool) | int (i : Int) | str (s : Str)
  | lst (xs : List D) | tup (xs : List D)
  | cel
  | ins (c : Str) (ns : List Str) (vs : List D)
  | dic (ks : List Key) (vs : List D)
  | exn (a x : Addr) (c : Str) (v : D)
  | scr (ns : List Int)
  | mc (k : Nat)

/-- the mark of a thing that changes, in the frozen part -/
def gh (k : Nat) : HO := .rng (k : Int) (-1)
theorem gh_inj {j k : Nat} (h : gh j = gh k) : j = k := by unfold gh at h; cases h; rfl
def NG (o : HO) : Prop := ∀ k, o ≠ gh k
theorem ngL {xs : List V} : NG (.lst xs) := fun _ e => by cases e
theorem ngT {xs : List V} : NG (.tup xs) := fun _ e => by cases e
theorem ngD {xs : List (Key × V)} : NG (.dK xs) := fun _ e => by cases e
theorem ngI {C dx : Addr} {fs : List (Str × V)} : NG (.ins C dx fs) := fun _ e => by cases e
theorem ngO {x : Addr} : NG (.own x) := fun _ e => by cases e
theorem ngX {fs : List (Str × V)} : NG (.xd fs) := fun _ e => by cases e
/-- the frozen part, but for the marks, lies in the heap -/
def Sub (F H : Hp) : Prop := ∀ b o, F b = some o → NG o → H b = some o
/-- what a thing that changes holds -/
inductive MC where
  | lst (xs : List D) | dic (ks : List Key) (xs : List D)
/-- how many draws; the things that change -/
structure Zs where
  n : Int := 0
  cs : List MC := []

mutual
inductive Rp (K : PySem.W.Frag) (mg : Str → Option Value) (pa : Option Addr) (F : Hp) : V → D → Prop
  | non : Rp K mg pa F .non .non
  | bl (b : Bool) : Rp K mg pa F (.bl b) (.bl b)
  | int (i : Int) : Rp K mg pa F (.int i) (.int i)
  | str (s : Str) : Rp K mg pa F (.str s) (.str s)
  | lst {a : Addr} {xs : List V} {ds : List D} : some a ≠ pa → F a = some (.lst xs) → RpL K mg pa F xs ds → Rp K mg pa F (.ref a) (.lst ds)
  | tup {a : Addr} {xs : List V} {ds : List D} : SqT K F a xs → RpL K mg pa F xs ds → Rp K mg pa F (.ref a) (.tup ds)
  | cel {a : Addr} : pa = some a → Rp K mg pa F (.ref a) .cel
  | ins {a C dx : Addr} {c : Str} {ns : List Str} {xs : List V} {ds : List D} : mg c = some (.ref C) → F a = some (.ins C dx (ns.zip xs)) → ns.length = xs.length → RpL K mg pa F xs ds → Rp K mg pa F (.ref a) (.ins c ns ds)
  | dic {a : Addr} {ks : List Key} {xs : List V} {ds : List D} : Rd F a (.dK (ks.zip xs)) → ks.length = xs.length → RpL K mg pa F xs ds → Rp K mg pa F (.ref a) (.dic ks ds)
  | exn {a x : Addr} {c : Str} {u : V} {e : D} : F x = some (.xd [(("value" : Str), u)]) → Rp K mg pa F u e → Rp K mg pa F (.ref a) (.exn a x c e)
  | scr {a : Addr} {ns : List Int} : SqL K F a (ns.map V.int) → Rp K mg pa F (.ref a) (.scr ns)
  | mc {a : Addr} {k : Nat} : F a = some (gh k) → Rp K mg pa F (.ref a) (.mc k)
inductive RpL (K : PySem.W.Frag) (mg : Str → Option Value) (pa : Option Addr) (F : Hp) : List V → List D → Prop
  | nil : RpL K mg pa F [] []
  | cons {v : V} {vs : List V} {d : D} {ds : List D} : Rp K mg pa F v d → RpL K mg pa F vs ds → RpL K mg pa F (v :: vs) (d :: ds)
end

section
variable {K : PySem.W.Frag} {mg : Str → Option Value} {pa : Option Addr} {F F' H H' : Hp} {v : V} {vs : List V} {d : D} {ds : List D}
theorem rdSame (s : Same F F') {a : Addr} {u : HO} (h : Rd F a u) : Rd F' a u := by
  rcases h with h | ⟨o, h⟩
  · exact .inl (s _ _ h)
  · exact .inr ⟨o, s _ _ h⟩
theorem rdSub (s : Sub F F') {a : Addr} {u : HO} (h : Rd F a u) (n : NG u) : Rd F' a u := by
  rcases h with h | ⟨o, h⟩
  · exact .inl (s _ _ h n)
  · exact .inr ⟨o, s _ _ h fun k e => by cases e⟩
theorem sqlSub (s : Sub F F') {a : Addr} {xs : List V} (h : SqL K F a xs) : SqL K F' a xs := h.elim (fun x => .inl (rdSub s x fun k e => by cases e)) .inr
theorem sqtSub (s : Sub F F') {a : Addr} {xs : List V} (h : SqT K F a xs) : SqT K F' a xs := h.elim (fun x => .inl (rdSub s x fun k e => by cases e)) .inr
theorem sqlSame (s : Same F F') {a : Addr} {xs : List V} (h : SqL K F a xs) : SqL K F' a xs := h.elim (fun x => .inl (rdSame s x)) .inr
theorem sqtSame (s : Same F F') {a : Addr} {xs : List V} (h : SqT K F a xs) : SqT K F' a xs := h.elim (fun x => .inl (rdSame s x)) .inr
mutual
theorem Rp.mono (s : Same F F') : ∀ {d : D} {v : V}, Rp K mg pa F v d → Rp K mg pa F' v d
  | .non, _, h => by cases h; exact .non
  | .bl _, _, h => by cases h; exact .bl _
  | .int _, _, h => by cases h; exact .int _
  | .str _, _, h => by cases h; exact .str _
  | .lst _, _, h => by cases h with | lst n q r => exact .lst n (s _ _ q) (RpL.mono s r)
  | .tup _, _, h => by cases h with | tup q r => exact .tup (sqtSame s q) (RpL.mono s r)
  | .cel, _, h => by cases h with | cel e => exact .cel e
  | .ins _ _ _, _, h => by cases h with | ins g q l r => exact .ins g (s _ _ q) l (RpL.mono s r)
  | .dic _ _, _, h => by cases h with | dic q l r => exact .dic (rdSame s q) l (RpL.mono s r)
  | .exn _ _ _ _, _, h => by cases h with | exn q r => exact .exn (s _ _ q) (Rp.mono s r)
  | .scr _, _, h => by cases h with | scr q => exact .scr (sqlSame s q)
  | .mc _, _, h => by cases h with | mc q => exact .mc (s _ _ q)
theorem RpL.mono (s : Same F F') : ∀ {ds : List D} {vs : List V}, RpL K mg pa F vs ds → RpL K mg pa F' vs ds
  | [], _, h => by cases h; exact .nil
  | _ :: _, _, h => by cases h with | cons a b => exact .cons (Rp.mono s a) (RpL.mono s b)
end
theorem RpL.length : ∀ {ds : List D} {vs : List V}, RpL K mg pa F vs ds → vs.length = ds.length
  | [], _, h => by cases h; rfl
  | _ :: _, _, h => by cases h with | cons a b => simp [RpL.length b]
theorem RpL.get : ∀ {ds : List D} {vs : List V} {i : Nat} {d : D}, RpL K mg pa F vs ds → ds[i]? = some d → ∃ v, vs[i]? = some v ∧ Rp K mg pa F v d
  | [], _, _, _, h, e => by simp at e
  | _ :: _, _, 0, _, h, e => by cases h with | cons a b => simp at e; subst e; exact ⟨_, rfl, a⟩
  | _ :: _, _, i + 1, _, h, e => by cases h with | cons a b => simpa using RpL.get (i := i) b (by simpa using e)
theorem RpL.getV : ∀ {ds : List D} {vs : List V} {i : Nat} {v : V}, RpL K mg pa F vs ds → vs[i]? = some v → ∃ d, ds[i]? = some d ∧ Rp K mg pa F v d
  | [], _, _, _, h, e => by cases h; simp at e
  | _ :: _, _, 0, _, h, e => by cases h with | cons a b => simp at e; subst e; exact ⟨_, rfl, a⟩
  | _ :: _, _, i + 1, _, h, e => by cases h with | cons a b => simpa using RpL.getV (i := i) b (by simpa using e)
theorem RpL.append : ∀ {ds es : List D} {vs ws : List V}, RpL K mg pa F vs ds → RpL K mg pa F ws es → RpL K mg pa F (vs ++ ws) (ds ++ es)
  | [], _, _, _, h, q => by cases h; exact q
  | _ :: _, _, _, _, h, q => by cases h with | cons a b => exact .cons a (RpL.append b q)
theorem RpL.take : ∀ (n : Nat) {ds : List D} {vs : List V}, RpL K mg pa F vs ds → RpL K mg pa F (vs.take n) (ds.take n)
  | 0, _, _, _ => by simp; exact .nil
  | _ + 1, [], _, h => by cases h; exact .nil
  | n + 1, _ :: _, _, h => by cases h with | cons a b => exact .cons a (RpL.take n b)
theorem RpL.drop : ∀ (n : Nat) {ds : List D} {vs : List V}, RpL K mg pa F vs ds → RpL K mg pa F (vs.drop n) (ds.drop n)
  | 0, _, _, h => h
  | _ + 1, [], _, h => by cases h; exact .nil
  | n + 1, _ :: _, _, h => by cases h with | cons a b => exact RpL.drop n b
theorem RpL.set : ∀ (n : Nat) {ds : List D} {vs : List V}, RpL K mg pa F vs ds → Rp K mg pa F v d → RpL K mg pa F (vs.set n v) (ds.set n d)
  | _, [], _, h, _ => by cases h; exact .nil
  | 0, _ :: _, _, h, q => by cases h with | cons a b => exact .cons q b
  | n + 1, _ :: _, _, h, q => by cases h with | cons a b => exact .cons a (RpL.set n b q)
end

/-! ## a def's ground: what stood at its entry; the purse -/
structure CC where
  K : PySem.W.Frag
  mg : Str → Option Value
  pa : Option Addr
  F0 : Hp
  H0 : Hp
  hid : List Addr := []
abbrev CC.R (C : CC) (F : Hp) (v : V) (d : D) : Prop := Rp C.K C.mg C.pa F v d
abbrev CC.RL (C : CC) (F : Hp) (v : List V) (d : List D) : Prop := RpL C.K C.mg C.pa F v d

inductive Sl where
  | no | fr (d : D) | own (xs : List D)
abbrev Rho := List Sl
/-- a raised error: its class's name, its value -/
abbrev Er := Str × D

theorem _root_.L2.Same.subT {F G H : Hp} (a : Same F G) (b : Sub G H) : Sub F H := fun c o h n => b c o (a c o h) n
/-- how a heap grows: all stays but the purse and what changes; marks are new; nothing goes -/
structure Keep (pa : Option Addr) (F F' H H' : Hp) : Prop where
  ke : ∀ b o, H b = some o → some b ≠ pa → (∀ k, F b ≠ some (gh k)) → H' b = some o
  gn : ∀ b k, F' b = some (gh k) → F b = some (gh k) ∨ H b = none
  dm : ∀ b, H b ≠ none → H' b ≠ none
theorem Keep.refl {pa : Option Addr} {F H : Hp} : Keep pa F F H H := ⟨fun _ _ h _ _ => h, fun _ _ h => .inl h, fun _ h => h⟩
theorem Keep.trans {pa : Option Addr} {F F1 F2 H H1 H2 : Hp} (a : Keep pa F F1 H H1) (b : Keep pa F1 F2 H1 H2) : Keep pa F F2 H H2 where
  ke := fun c o h n g => by
    refine b.ke c o (a.ke c o h n g) n fun k e => ?_
    rcases a.gn c k e with q | q
    · exact g k q
    · rw [h] at q; cases q
  gn := fun c k e => by
    rcases b.gn c k e with q | q
    · exact a.gn c k q
    · refine .inr ?_
      cases r : H c with
      | none => rfl
      | some o => exact absurd q (a.dm c (by rw [r]; simp))
  dm := fun c h => b.dm c (a.dm c h)
theorem Keep.new {pa : Option Addr} {F H : Hp} {p : Addr} {o : HO} (h : H p = none) : Keep pa F F H (upd H p o) where
  ke := fun b u e _ _ => by rw [upd_ne (ne_of_none e h)]; exact e
  gn := fun _ _ h => .inl h
  dm := fun b e => by
    by_cases q : b = p
    · rw [q, upd_same]; simp
    · rw [upd_ne q]; exact e
theorem Keep.newF {pa : Option Addr} {F H : Hp} {p : Addr} {o u : HO} (h : H p = none) : Keep pa F (upd F p u) H (upd H p o) where
  ke := (Keep.new (pa := pa) (F := F) h).ke
  gn := fun b k e => by
    by_cases q : b = p
    · rw [q]; exact .inr h
    · rw [upd_ne q] at e; exact .inl e
  dm := (Keep.new (pa := pa) (F := F) h).dm
theorem Keep.frz {pa : Option Addr} {F H : Hp} {p : Addr} {o : HO} (n : NG o) : Keep pa F (upd F p o) H H where
  ke := fun _ _ h _ _ => h
  gn := fun b k e => by
    by_cases q : b = p
    · rw [q, upd_same] at e; cases e; exact absurd rfl (n k)
    · rw [upd_ne q] at e; exact .inl e
  dm := fun _ h => h
/-- what was not there ahead changes -/
theorem Keep.updH {pa : Option Addr} {F F' H H' : Hp} {p : Addr} {o : HO} (k : Keep pa F F' H H') (h : H p = none) : Keep pa F F' H (upd H' p o) where
  ke := fun b u e n g => by rw [upd_ne (ne_of_none e h)]; exact k.ke b u e n g
  gn := k.gn
  dm := fun b e => by
    by_cases q : b = p
    · rw [q, upd_same]; simp
    · rw [upd_ne q]; exact k.dm b e
theorem Same.new {H : Hp} {p : Addr} {o : HO} (h : H p = none) : Same H (upd H p o) := fun b u e => by rw [upd_ne (ne_of_none e h)]; exact e
theorem Sub.upd2 {F H : Hp} {p : Addr} {o : HO} (s : Sub F H) : Sub (upd F p o) (upd H p o) := fun b u e n => by
  by_cases q : b = p
  · subst q; rw [upd_same] at e ⊢; exact e
  · rw [upd_ne q] at e ⊢; exact s _ _ e n
theorem Sub.updR {F H : Hp} {p : Addr} {o : HO} (s : Sub F H) (h : F p = none) : Sub F (upd H p o) := fun b u e n => by
  rw [upd_ne (ne_of_none e h)]; exact s _ _ e n
theorem Sub.updG {F H : Hp} {p : Addr} {o : HO} {k : Nat} (s : Sub F H) : Sub (upd F p (gh k)) (upd H p o) := fun b u e n => by
  by_cases q : b = p
  · subst q; rw [upd_same] at e; cases e; exact absurd rfl (n k)
  · rw [upd_ne q] at e ⊢; exact s _ _ e n

/-- what a changing thing's object holds -/
def CO (K : PySem.W.Frag) (mg : Str → Option Value) (pa : Option Addr) (F : Hp) (o : HO) : MC → Prop
  | .lst ds => ∃ xs, o = .lst xs ∧ RpL K mg pa F xs ds
  | .dic ks ds => ∃ xs, o = .dK (ks.zip xs) ∧ ks.length = xs.length ∧ RpL K mg pa F xs ds
structure CsOk (K : PySem.W.Frag) (mg : Str → Option Value) (pa : Option Addr) (F H : Hp) (cs : List MC) : Prop where
  at_ : ∀ k c, cs[k]? = some c → ∃ a o, F a = some (gh k) ∧ H a = some o ∧ CO K mg pa F o c
  lt : ∀ a k, F a = some (gh k) → k < cs.length
  inj : ∀ a b k, F a = some (gh k) → F b = some (gh k) → a = b
section
variable {K : PySem.W.Frag} {mg : Str → Option Value} {pa : Option Addr} {F F' H H' : Hp} {cs : List MC} {c : MC} {o : HO} {p : Addr}
theorem CO.mono (s : Same F F') (h : CO K mg pa F o c) : CO K mg pa F' o c := by
  cases c with
  | lst ds => obtain ⟨xs, e, r⟩ := h; exact ⟨xs, e, RpL.mono s r⟩
  | dic ks ds => obtain ⟨xs, e, l, r⟩ := h; exact ⟨xs, e, l, RpL.mono s r⟩
/-- the marks and what they mark stay -/
theorem CsOk.grow (h : CsOk K mg pa F H cs) (ff : Same F F') (hg : ∀ a k, F' a = some (gh k) → F a = some (gh k)) (hh : ∀ a k o, F a = some (gh k) → H a = some o → H' a = some o) : CsOk K mg pa F' H' cs :=
  ⟨fun k c e => by
    obtain ⟨a, o, e1, e2, e3⟩ := h.at_ k c e
    exact ⟨a, o, ff _ _ e1, hh a k o e1 e2, e3.mono ff⟩, fun a k e => h.lt a k (hg a k e), fun a b k e1 e2 => h.inj a b k (hg a k e1) (hg b k e2)⟩
theorem CsOk.get (h : CsOk K mg pa F H cs) {a : Addr} {k : Nat} (e : F a = some (gh k)) : ∃ o c, H a = some o ∧ cs[k]? = some c ∧ CO K mg pa F o c := by
  have l := h.lt a k e
  obtain ⟨b, o, e1, e2, e3⟩ := h.at_ k cs[k] (List.getElem?_eq_getElem l)
  have := h.inj a b k e e1
  subst this
  exact ⟨o, _, e2, List.getElem?_eq_getElem l, e3⟩
theorem gh_upd {k : Nat} (n : NG o) {a : Addr} (h : upd F p o a = some (gh k)) : F a = some (gh k) := by
  by_cases q : a = p
  · rw [q, upd_same] at h; cases h; exact absurd rfl (n k)
  · rw [upd_ne q] at h; exact h
/-- a new changing thing -/
theorem CsOk.newC (h : CsOk K mg pa F H cs) (hp : H p = none) (hf : F p = none) (hc : CO K mg pa F o c) : CsOk K mg pa (upd F p (gh cs.length)) (upd H p o) (cs ++ [c]) :=
  ⟨fun k c' e => by
    by_cases q : k < cs.length
    · rw [List.getElem?_append_left q] at e
      obtain ⟨a, o', e1, e2, e3⟩ := h.at_ k c' e
      exact ⟨a, o', by rw [upd_ne (ne_of_none e1 hf)]; exact e1, by rw [upd_ne (ne_of_none e2 hp)]; exact e2, e3.mono (Same.new hf)⟩
    · rw [List.getElem?_append_right (by omega)] at e
      have hk : k - cs.length = 0 := by
        cases r : k - cs.length with
        | zero => rfl
        | succ n => rw [r] at e; simp at e
      rw [hk] at e; simp at e; subst e
      have hk' : k = cs.length := by omega
      subst hk'
      exact ⟨p, o, upd_same, upd_same, hc.mono (Same.new hf)⟩,
   fun a k e => by
    rw [List.length_append]
    by_cases q : a = p
    · rw [q, upd_same] at e; have := gh_inj (Option.some.inj e); simp; omega
    · rw [upd_ne q] at e; have := h.lt a k e; omega,
   fun a b k e1 e2 => by
    by_cases q : a = p <;> by_cases r : b = p
    · rw [q, r]
    · rw [q, upd_same] at e1; rw [upd_ne r] at e2
      have := gh_inj (Option.some.inj e1); have := h.lt b k e2; omega
    · rw [r, upd_same] at e2; rw [upd_ne q] at e1
      have := gh_inj (Option.some.inj e2); have := h.lt a k e1; omega
    · rw [upd_ne q] at e1; rw [upd_ne r] at e2; exact h.inj a b k e1 e2⟩
/-- a changing thing changes -/
theorem CsOk.set (h : CsOk K mg pa F H cs) {k : Nat} (e : F p = some (gh k)) (hc : CO K mg pa F o c) : CsOk K mg pa F (upd H p o) (cs.set k c) :=
  ⟨fun j c' q => by
    by_cases hj : j = k
    · subst hj
      rw [List.getElem?_set_self (h.lt _ _ e)] at q
      cases q
      exact ⟨p, o, e, upd_same, hc⟩
    · rw [List.getElem?_set_ne (Ne.symm hj)] at q
      obtain ⟨a, o', e1, e2, e3⟩ := h.at_ j c' q
      have ne : a ≠ p := fun z => hj (gh_inj (Option.some.inj (by rw [← e1, z, e])))
      exact ⟨a, o', e1, by rw [upd_ne ne]; exact e2, e3⟩,
   fun a j q => by rw [List.length_set]; exact h.lt a j q, h.inj⟩
end

/-- the purse -/
def PzOk (pa : Option Addr) (F H : Hp) (z : Zs) : Prop := ∀ p, pa = some p → F p = none ∧ ∃ x y : Int, H p = some (.lst [.int x, .int y, .int z.n]) ∧ 0 ≤ x ∧ 0 ≤ y ∧ y < 10 ^ 24 + 7 ∧ 0 ≤ z.n

def SlOk (C : CC) (F H : Hp) : Option V → Sl → Prop
  | _, .no => True
  | some v, .fr d => C.R F v d
  | some v, .own ds => ∃ a xs, v = .ref a ∧ H a = some (.lst xs) ∧ F a = none ∧ C.H0 a = none ∧ some a ≠ C.pa ∧ C.RL F xs ds ∧ a ∉ C.hid
  | none, .fr _ => False
  | none, .own _ => False

structure StOk (C : CC) (σ : L2.St) (ρ : Rho) (F H : Hp) (z : Zs) : Prop where
  sub : Sub F H
  f0 : Same C.F0 F
  h0 : Keep C.pa C.F0 F C.H0 H
  nw : ∀ b, F b ≠ none → C.F0 b = none → C.H0 b = none
  len : σ.length = ρ.length
  env : ∀ (i : Nat) v s, σ[i]? = some v → ρ[i]? = some s → SlOk C F H v s
  apart : ∀ (i j : Nat) x y a, ρ[i]? = some (.own x) → ρ[j]? = some (.own y) → σ[i]? = some (some (.ref a)) → σ[j]? = some (some (.ref a)) → i = j
  pz : PzOk C.pa F H z
  hd : ∀ b ∈ C.hid, F b = none ∧ (∃ o, H b = some o) ∧ some b ≠ C.pa
  cs : CsOk C.K C.mg C.pa F H z.cs

theorem nog {F : Hp} {a : Addr} (h : F a = none) : ∀ k, F a ≠ some (gh k) := fun k e => by rw [h] at e; cases e
section
variable {C : CC} {σ : L2.St} {ρ : Rho} {F F' H H' : Hp} {z z' : Zs}
/-- nothing frozen stands where the heap has nothing -/
theorem StOk.free (S : StOk C σ ρ F H z) {p : Addr} (h : H p = none) : F p = none := by
  cases q : F p with
  | none => rfl
  | some o =>
    by_cases g : ∃ k, o = gh k
    · obtain ⟨k, rfl⟩ := g
      obtain ⟨o', _, e, _⟩ := S.cs.get q
      rw [h] at e; cases e
    · have := S.sub p o q fun k e => g ⟨k, e⟩
      rw [h] at this; cases this
/-- the frozen part and the heap grow; what the frame owns stays -/
theorem StOk.grow (S : StOk C σ ρ F H z) (ff : Same F F') (sub : Sub F' H') (hk : Keep C.pa F F' H H') (nw : ∀ b, F' b ≠ none → F b = none → H b = none) (pz : PzOk C.pa F' H' z') (cs : CsOk C.K C.mg C.pa F' H' z'.cs) : StOk C σ ρ F' H' z' := by
  refine ⟨sub, S.f0.trans ff, S.h0.trans hk, fun b h1 h2 => ?_, S.len, fun i v s e1 e2 => ?_, S.apart, pz, fun b hb => ?_, cs⟩
  · by_cases q : F b = none
    · have hb := nw b h1 q
      cases e : C.H0 b with
      | none => rfl
      | some o => exact absurd hb (S.h0.dm b (by rw [e]; simp))
    · exact S.nw b q h2
  · have h := S.env i v s e1 e2
    cases s with
    | no => cases v <;> trivial
    | fr d =>
      cases v with
      | none => exact h.elim
      | some v => exact Rp.mono ff h
    | own ds =>
      cases v with
      | none => exact h.elim
      | some v =>
        obtain ⟨a, xs, rfl, ha, hf, h0, np, r, nh⟩ := h
        refine ⟨a, xs, rfl, hk.ke a _ ha np (nog hf), ?_, h0, np, RpL.mono ff r, nh⟩
        cases e : F' a with
        | none => rfl
        | some o =>
          have := nw a (by rw [e]; simp) hf
          rw [ha] at this; cases this
  · obtain ⟨h1, ⟨o, h2⟩, h3⟩ := S.hd b hb
    refine ⟨?_, ⟨o, hk.ke b o h2 h3 (nog h1)⟩, h3⟩
    cases e : F' b with
    | none => rfl
    | some u =>
      have := nw b (by rw [e]; simp) h1
      rw [h2] at this; cases this
/-- a new object, not frozen -/
theorem StOk.newH (S : StOk C σ ρ F H z) {p : Addr} {o : HO} (h : H p = none) : StOk C σ ρ F (upd H p o) z := by
  have hf : F p = none := S.free h
  refine S.grow (Same.refl F) (Sub.updR S.sub hf) (Keep.new h) (fun b h1 h2 => absurd h2 h1) (fun q e => ?_) (S.cs.grow (Same.refl F) (fun _ _ e => e) fun a k u _ e => by rw [upd_ne (ne_of_none e h)]; exact e)
  obtain ⟨h1, x, y, h2, r⟩ := S.pz q e
  have ne : q ≠ p := ne_of_none h2 h
  exact ⟨h1, x, y, by rw [upd_ne ne]; exact h2, r⟩
/-- a new object, frozen at once -/
theorem StOk.newF (S : StOk C σ ρ F H z) {p : Addr} {o : HO} (h : H p = none) (n : NG o) : StOk C σ ρ (upd F p o) (upd H p o) z := by
  have hf : F p = none := S.free h
  refine S.grow (Same.new hf) (Sub.upd2 S.sub) (Keep.newF h) (fun b h1 h2 => ?_) (fun q e => ?_) (S.cs.grow (Same.new hf) (fun _ _ e => gh_upd n e) fun a k u _ e => by rw [upd_ne (ne_of_none e h)]; exact e)
  · by_cases e : b = p
    · rw [e]; exact h
    · rw [upd_ne e] at h1; exact absurd h2 h1
  · obtain ⟨h1, x, y, h2, r⟩ := S.pz q e
    have ne : q ≠ p := ne_of_none h2 h
    exact ⟨by rw [upd_ne ne]; exact h1, x, y, by rw [upd_ne ne]; exact h2, r⟩
/-- a new thing that changes -/
theorem StOk.newC (S : StOk C σ ρ F H z) {p : Addr} {o : HO} {c : MC} (h : H p = none) (hc : CO C.K C.mg C.pa F o c) : StOk C σ ρ (upd F p (gh z.cs.length)) (upd H p o) { z with cs := z.cs ++ [c] } := by
  have hf : F p = none := S.free h
  refine S.grow (Same.new hf) (Sub.updG S.sub) (Keep.newF h) (fun b h1 h2 => ?_) (fun q e => ?_) (S.cs.newC h hf hc)
  · by_cases e : b = p
    · rw [e]; exact h
    · rw [upd_ne e] at h1; exact absurd h2 h1
  · obtain ⟨h1, x, y, h2, r⟩ := S.pz q e
    have ne : q ≠ p := ne_of_none h2 h
    exact ⟨by rw [upd_ne ne]; exact h1, x, y, by rw [upd_ne ne]; exact h2, r⟩
theorem keep_cell {pa : Option Addr} {p : Addr} {o : HO} {k : Nat} (e : F p = some (gh k)) : Keep pa F F H (upd H p o) where
  ke := fun b u h _ g => by rw [upd_ne (fun q => g k (by rw [q]; exact e))]; exact h
  gn := fun _ _ h => .inl h
  dm := fun b h => by
    by_cases q : b = p
    · rw [q, upd_same]; simp
    · rw [upd_ne q]; exact h
/-- a thing changes -/
theorem StOk.setC (S : StOk C σ ρ F H z) {p : Addr} {o : HO} {c : MC} {k : Nat} (e : F p = some (gh k)) (hc : CO C.K C.mg C.pa F o c) : StOk C σ ρ F (upd H p o) { z with cs := z.cs.set k c } := by
  refine S.grow (Same.refl F) (fun b u h n => ?_) (keep_cell e) (fun b h1 h2 => absurd h2 h1) (fun q r => ?_) (S.cs.set e hc)
  · have ne : b ≠ p := fun z => by rw [z, e] at h; cases h; exact n k rfl
    rw [upd_ne ne]; exact S.sub _ _ h n
  · obtain ⟨h1, x, y, h2, r⟩ := S.pz q r
    have ne : q ≠ p := fun z => by rw [z, e] at h1; cases h1
    exact ⟨h1, x, y, by rw [upd_ne ne]; exact h2, r⟩
/-- an object that stands and is nobody's is frozen -/
theorem StOk.freeze (S : StOk C σ ρ F H z) {p : Addr} {o : HO} (hp : H p = some o) (hf : F p = none) (h0 : C.H0 p = none) (np : some p ≠ C.pa) (no : ∀ (i : Nat) xs, ρ[i]? = some (.own xs) → σ[i]? ≠ some (some (.ref p))) (nh : p ∉ C.hid) (n : NG o) : StOk C σ ρ (upd F p o) H z := by
  have sub : Sub (upd F p o) H := fun b u e n => by
    by_cases q : b = p
    · subst q; rw [upd_same] at e; cases e; exact hp
    · rw [upd_ne q] at e; exact S.sub _ _ e n
  refine ⟨sub, S.f0.trans (Same.new hf), S.h0.trans (Keep.frz n), fun b h1 h2 => ?_, S.len, fun i v s e1 e2 => ?_, S.apart, fun q e => ?_, fun b hb => ?_, S.cs.grow (Same.new hf) (fun _ _ e => gh_upd n e) fun _ _ _ _ e => e⟩
  · by_cases e : b = p
    · rw [e]; exact h0
    · rw [upd_ne e] at h1; exact S.nw b h1 h2
  · have h := S.env i v s e1 e2
    cases s with
    | no => cases v <;> trivial
    | fr d =>
      cases v with
      | none => exact h.elim
      | some v => exact Rp.mono (Same.new hf) h
    | own ds =>
      cases v with
      | none => exact h.elim
      | some v =>
        obtain ⟨a, xs, rfl, ha, hf', h0', np', r, nh'⟩ := h
        have ne : a ≠ p := fun e => no i ds e2 (by rw [e1, e])
        exact ⟨a, xs, rfl, ha, by rw [upd_ne ne]; exact hf', h0', np', RpL.mono (Same.new hf) r, nh'⟩
  · obtain ⟨h1, r⟩ := S.pz q e
    have ne : q ≠ p := fun z => np (by rw [← z, e])
    exact ⟨by rw [upd_ne ne]; exact h1, r⟩
  · obtain ⟨h1, r⟩ := S.hd b hb
    have ne : b ≠ p := fun z => nh (by rw [← z]; exact hb)
    exact ⟨by rw [upd_ne ne]; exact h1, r⟩
end
end DL

namespace DL
open PySem PySem.Spec PyProof.Rows L2

/-! ## computations over slots, draws, errors: predicate transformers -/
abbrev E (α : Type) := Rho → (α → Rho → Zs → Prop) → (Er → Rho → Zs → Prop) → Zs → Prop
abbrev E0 (α : Type) := (α → Zs → Prop) → (Er → Zs → Prop) → Zs → Prop
def eb {α β : Type} (m : E α) (f : α → E β) : E β := fun ρ Q X z => m ρ (fun a ρ' z' => f a ρ' Q X z') X z
def ep {α : Type} (a : α) : E α := fun ρ Q _ z => Q a ρ z
def eP {α : Type} (p : (α → Prop) → Prop) : E α := fun ρ Q _ z => p fun a => Q a ρ z
def e0 {α : Type} (m : E0 α) : E α := fun ρ Q X z => m (fun a z' => Q a ρ z') (fun e z' => X e ρ z') z

/-- how an error lies -/
def ExR (C : CC) (F H : Hp) (e : Er) (cls : Value) (dd : Option Addr) : Prop := ∃ (A x : Addr) (v : V), C.mg e.1 = some (.ref A) ∧ cls = .ref A ∧ dd = some x ∧ F x = some (.xd [(("value" : Str), v)]) ∧ C.R F v e.2

/-- what is owned behind was owned ahead -/
def Ole (r' r : Rho) : Prop := ∀ (i : Nat) ys, r'[i]? = some (.own ys) → ∃ zs, r[i]? = some (.own zs)
theorem Ole.refl {r : Rho} : Ole r r := fun _ ys h => ⟨ys, h⟩
theorem Ole.trans {a b c : Rho} (h : Ole a b) (q : Ole b c) : Ole a c := fun i ys e => let ⟨zs, e1⟩ := h i ys e; q i zs e1
/-- the reading t does what m says; R ties the results -/
def Den {α β : Type} (C : CC) (W : WX) (t : L2.St → Hp → (β → Hp → Prop) → Prop) (m : E α) (R : Hp → Hp → Hp → β → α → Prop) : Prop :=
  ∀ (σ : L2.St) (ρ : Rho) (F H : Hp) (z : Zs) (Qd : α → Rho → Zs → Prop) (Xd : Er → Rho → Zs → Prop) (Q : β → Hp → Prop), StOk C σ ρ F H z → m ρ Qd Xd z →
    (∀ a ρ' z' b F' H', Qd a ρ' z' → StOk C σ ρ' F' H' z' → Same F F' → Keep C.pa F F' H H' → Ole ρ' ρ → R H F' H' b a → Q b H') →
    (∀ e ρ' z' cls dd F' H', Xd e ρ' z' → StOk C σ ρ' F' H' z' → Same F F' → ExR C F' H' e cls dd → W cls dd σ H') → t σ H Q

/-- a value that is frozen, or a thing that stands as it is just now, its items frozen -/
def RTo (C : CC) (F : Hp) (o : HO) : D → Prop
  | .lst ds => ∃ xs, o = .lst xs ∧ C.RL F xs ds
  | .dic ks ds => ∃ xs, o = .dK (ks.zip xs) ∧ ks.length = xs.length ∧ C.RL F xs ds
  | _ => False
def RT (C : CC) (F H : Hp) (v : V) (d : D) : Prop := C.R F v d ∨ ∃ a o, v = .ref a ∧ H a = some o ∧ some a ≠ C.pa ∧ RTo C F o d
/-- a value that is frozen, or a list that stands, no changing thing -/
def RK (C : CC) (F H : Hp) (v : V) (d : D) : Prop := C.R F v d ∨ ∃ a xs ds, v = .ref a ∧ d = .lst ds ∧ H a = some (.lst xs) ∧ some a ≠ C.pa ∧ (∀ k, F a ≠ some (gh k)) ∧ C.RL F xs ds
theorem RK.now {C : CC} {F H : Hp} {v : V} {d : D} (h : RK C F H v d) : RT C F H v d := by
  rcases h with h | ⟨a, xs, ds, e1, e2, e3, e4, e5, e6⟩
  · exact .inl h
  · subst e2
    exact .inr ⟨a, _, e1, e3, e4, xs, rfl, e6⟩
/-- a new list of one's own -/
def RO (C : CC) (H F' H' : Hp) (v : V) (ds : List D) : Prop := ∃ a xs, v = .ref a ∧ H' a = some (.lst xs) ∧ F' a = none ∧ H a = none ∧ some a ≠ C.pa ∧ C.RL F' xs ds
section
variable {C : CC} {F F' H H' : Hp} {v : V} {d : D} {ds : List D}
theorem RK.keep (s : Same F F') (k : Keep C.pa F F' H H') (h : RK C F H v d) : RK C F' H' v d := by
  rcases h with h | ⟨a, xs, ds, e1, e2, e3, e4, e5, e6⟩
  · exact .inl (Rp.mono s h)
  · refine .inr ⟨a, xs, ds, e1, e2, k.ke a _ e3 e4 e5, e4, fun j e => ?_, RpL.mono s e6⟩
    rcases k.gn a j e with q | q
    · exact e5 j q
    · rw [e3] at q; cases q
theorem RT.int {i : Int} (h : RT C F H v (.int i)) : v = .int i := by
  rcases h with h | ⟨_, _, _, _, _, e⟩
  · cases h; rfl
  · exact e.elim
theorem RT.bl {b : Bool} (h : RT C F H v (.bl b)) : v = .bl b := by
  rcases h with h | ⟨_, _, _, _, _, e⟩
  · cases h; rfl
  · exact e.elim
theorem RT.str {b : Str} (h : RT C F H v (.str b)) : v = .str b := by
  rcases h with h | ⟨_, _, _, _, _, e⟩
  · cases h; rfl
  · exact e.elim
theorem RT.non (h : RT C F H v .non) : v = .non := by
  rcases h with h | ⟨_, _, _, _, _, e⟩
  · cases h; rfl
  · exact e.elim
theorem RT.lst (s : Sub F H) (h : RT C F H v (.lst ds)) : ∃ a xs, v = .ref a ∧ H a = some (.lst xs) ∧ C.RL F xs ds ∧ some a ≠ C.pa := by
  rcases h with h | ⟨a, o, e1, e2, e3, xs, e4, e5⟩
  · cases h with | lst n q r => exact ⟨_, _, rfl, s _ _ q ngL, r, n⟩
  · subst e4
    exact ⟨a, xs, e1, e2, e5, e3⟩
theorem RT.tup (s : Sub F H) (h : RT C F H v (.tup ds)) : ∃ a xs, v = .ref a ∧ SqT C.K H a xs ∧ C.RL F xs ds := by
  rcases h with h | ⟨_, _, _, _, _, e⟩
  · cases h with | tup q r => exact ⟨_, _, rfl, sqtSub s q, r⟩
  · exact e.elim
end

/-- all but lists and dicts are frozen -/
theorem RT.fro {C : CC} {F H : Hp} {v : V} {d : D} (h : RT C F H v d) (n : ∀ o, ¬ RTo C F o d) : C.R F v d := by
  rcases h with h | ⟨_, o, _, _, _, e⟩
  · exact h
  · exact (n o e).elim
theorem RT.scr {C : CC} {F H : Hp} {v : V} {ns : List Int} (s : Sub F H) (h : RT C F H v (.scr ns)) : ∃ a, v = .ref a ∧ SqL C.K H a (ns.map V.int) := by
  rcases h with h | ⟨_, _, _, _, _, e⟩
  · cases h with | scr q => exact ⟨_, rfl, sqlSub s q⟩
  · exact e.elim

abbrev kR (C : CC) : Hp → Hp → Hp → V → D → Prop := fun _ F' _ v d => C.R F' v d
abbrev kT (C : CC) : Hp → Hp → Hp → V → D → Prop := fun _ F' H' v d => RK C F' H' v d
abbrev kL (C : CC) : Hp → Hp → Hp → List V → List D → Prop := fun _ F' _ v d => C.RL F' v d
abbrev kB : Hp → Hp → Hp → Bool → Bool → Prop := fun _ _ _ a b => a = b

/-- an expression: its value frozen; a passing one; a new list; arguments; a test -/
structure XE (X : Cx) (C : CC) (W : WX) (e : Expr) (m : E D) : Prop where
  ex : ∃ t, PE X e t ∧ Den C W t m (kR C)
structure XP (X : Cx) (C : CC) (W : WX) (e : Expr) (m : E D) : Prop where
  ex : ∃ t, PE X e t ∧ Den C W t m (kT C)
structure XO (X : Cx) (C : CC) (W : WX) (e : Expr) (m : E (List D)) : Prop where
  ex : ∃ t, PE X e t ∧ Den C W t m (RO C)
structure XA (X : Cx) (C : CC) (W : WX) (es : List Expr) (m : E (List D)) : Prop where
  ex : ∃ t, PA X es t ∧ Den C W t m (kL C)
structure XT (X : Cx) (C : CC) (W : WX) (e : Expr) (m : E Bool) : Prop where
  ex : ∃ t, PT X e t ∧ Den C W t m kB
structure XW (X : Cx) (C : CC) (W : WX) (e : Expr) (m : E Bool) : Prop where
  ex : ∃ t, PW X e t ∧ Den C W t m kB

/-- the context's facts -/
structure Kx (X : Cx) (C : CC) (W : WX) (k : Nat) : Prop where
  hK : X.K = C.K
  hmg : X.mg = C.mg
  calm : X.calm = true
  gu : X.A.guards = some []
  room : Room k X.A
  tk : Takes X W
  nd : X.N.Nodup
  po : PassesOwn (model X.prog X.w) X.A X.env X.xe
theorem Kx.hu {X : Cx} {C : CC} {W : WX} {k : Nat} (h : Kx X C W k) : X.A.units + 65 < cLine := by have := h.room.un; omega

section
variable {X : Cx} {C : CC} {W : WX} {e e1 e2 e3 a b c : Expr} {es : List Expr} {m ma mb mc : E D} {pos : Pos} {k : Nat}

theorem XE.p (h : XE X C W e m) : XP X C W e m := by
  obtain ⟨t, h1, h2⟩ := h.ex
  exact ⟨t, h1, fun σ ρ F H z Qd Xd Q S hm hq hx => h2 σ ρ F H z Qd Xd Q S hm (fun a ρ' z' b F' H' q S' ff hk ol r => hq a ρ' z' b F' H' q S' ff hk ol (.inl r)) hx⟩
/-- a new list, as a passing value -/
theorem XO.p {m : E (List D)} (h : XO X C W e m) : XP X C W e (eb m fun ds => ep (.lst ds)) := by
  obtain ⟨t, h1, h2⟩ := h.ex
  exact ⟨t, h1, fun σ ρ F H z Qd Xd Q S hm hq hx => h2 σ ρ F H z _ Xd Q S hm (fun ds ρ' z' b F' H' q S' ff hk ol ⟨a, xs, e1, e2, e3, e4, e5, e6⟩ => hq _ ρ' z' b F' H' q S' ff hk ol (.inr ⟨a, xs, ds, e1, rfl, e2, e5, nog e3, e6⟩)) hx⟩
theorem StOk.notOwn {σ : L2.St} {ρ : Rho} {F H : Hp} {z : Zs} (S : StOk C σ ρ F H z) {p : Addr} (h : H p = none) {ρ' : Rho} (ol : Ole ρ' ρ) : ∀ (i : Nat) ys, ρ'[i]? = some (.own ys) → σ[i]? ≠ some (some (.ref p)) := fun i ys r1 r2 => by
  obtain ⟨zs, r3⟩ := ol i ys r1
  obtain ⟨a, xs, e1, e2, _⟩ := S.env i _ _ r2 r3
  cases e1
  rw [h] at e2
  cases e2
theorem StOk.h0None {σ : L2.St} {ρ : Rho} {F H : Hp} {z : Zs} (S : StOk C σ ρ F H z) {p : Addr} (h : H p = none) (np : some p ≠ C.pa) : C.H0 p = none := by
  cases q0 : C.H0 p with
  | none => rfl
  | some o => exact absurd h (S.h0.dm p (by rw [q0]; simp))
theorem StOk.notHid {σ : L2.St} {ρ : Rho} {F H : Hp} {z : Zs} (S : StOk C σ ρ F H z) {p : Addr} (h : H p = none) : p ∉ C.hid := fun hp => by
  obtain ⟨_, ⟨o, e⟩, _⟩ := S.hd p hp
  rw [h] at e
  cases e
/-- .. frozen -/
theorem XO.fz {m : E (List D)} (h : XO X C W e m) : XE X C W e (eb m fun ds => ep (.lst ds)) := by
  obtain ⟨t, h1, h2⟩ := h.ex
  refine ⟨t, h1, fun σ ρ F H z Qd Xd Q S hm hq hx => h2 σ ρ F H z _ Xd Q S hm (fun ds ρ' z' b F' H' q S' ff hk ol ⟨a, xs, e1, e2, e3, e4, e5, e6⟩ => ?_) hx⟩
  refine hq _ ρ' z' b _ H' q (S'.freeze e2 e3 (S.h0None e4 e5) e5 (S.notOwn e4 ol) (S.notHid e4) ngL) (ff.trans (Same.new e3)) (hk.trans (Keep.frz ngL)) ol ?_
  subst e1
  exact .lst e5 upd_same (RpL.mono (Same.new e3) e6)

/-! ## composing -/
/-- what a result's tie keeps when its start is set back -/
def Back {α β : Type} (C : CC) (R : Hp → Hp → Hp → β → α → Prop) : Prop := ∀ (H H1 F' H' : Hp) (b : β) (a : α), (∀ q, H q ≠ none → H1 q ≠ none) → R H1 F' H' b a → R H F' H' b a
theorem back_R : Back C (kR C) := fun _ _ _ _ _ _ _ h => h
theorem back_T : Back C (kT C) := fun _ _ _ _ _ _ _ h => h
theorem back_L : Back C (kL C) := fun _ _ _ _ _ _ _ h => h
theorem back_B : Back C kB := fun _ _ _ _ _ _ _ h => h
theorem back_O : Back C (RO C) := fun H H1 F' H' b a k ⟨p, xs, e1, e2, e3, e4, e5, e6⟩ => ⟨p, xs, e1, e2, e3, (by
  cases q : H p with
  | none => rfl
  | some o => exact absurd e4 (k p (by rw [q]; simp))), e5, e6⟩
/-- one part, then what the rest does with it -/
theorem Den.bind {α β γ δ : Type} {t : L2.St → Hp → (β → Hp → Prop) → Prop} {u : β → L2.St → Hp → (δ → Hp → Prop) → Prop} {m1 : E α} {f : α → E γ} {R1 : Hp → Hp → Hp → β → α → Prop} {R : Hp → Hp → Hp → δ → γ → Prop} (hB : Back C R)
    (h1 : Den C W t m1 R1)
    (h2 : ∀ (H0 : Hp) (σ : L2.St) (ρ : Rho) (F H : Hp) (z : Zs) (a : α) (b : β) (Qd : γ → Rho → Zs → Prop) (Xd : Er → Rho → Zs → Prop) (Q : δ → Hp → Prop), StOk C σ ρ F H z → R1 H0 F H b a → f a ρ Qd Xd z →
      (∀ c ρ' z' d F' H', Qd c ρ' z' → StOk C σ ρ' F' H' z' → Same F F' → Keep C.pa F F' H H' → Ole ρ' ρ → R H F' H' d c → Q d H') →
      (∀ e ρ' z' cls dd F' H', Xd e ρ' z' → StOk C σ ρ' F' H' z' → Same F F' → ExR C F' H' e cls dd → W cls dd σ H') → u b σ H Q) :
    Den C W (fun σ H Q => t σ H fun b H1 => u b σ H1 Q) (eb m1 f) R := fun σ ρ F H z Qd Xd Q S hm hq hx =>
  h1 σ ρ F H z _ Xd _ S hm (fun a ρ1 z1 b F1 H1 q1 S1 ff1 k1 o1 r1 => h2 H σ ρ1 F1 H1 z1 a b Qd Xd Q S1 r1 q1
      (fun c ρ' z' d F' H' q' S' ff' k' o' r' => hq c ρ' z' d F' H' q' S' (ff1.trans ff') (k1.trans k') (o'.trans o1) (hB _ _ _ _ _ _ k1.dm r'))
      (fun e ρ' z' cls dd F' H' q' S' ff' r' => hx e ρ' z' cls dd F' H' q' S' (ff1.trans ff') r'))
    hx
/-- a two-place operation on passing values -/
def Op2 {α : Type} (C : CC) (W : WX) (r : R2) (f : D → D → E α) (R : Hp → Hp → Hp → V → α → Prop) : Prop :=
  ∀ (σ : L2.St) (ρ : Rho) (F H : Hp) (z : Zs) (x y : V) (dx dy : D) (Qd : α → Rho → Zs → Prop) (Xd : Er → Rho → Zs → Prop) (Q : VK), StOk C σ ρ F H z → RT C F H x dx → RT C F H y dy → f dx dy ρ Qd Xd z →
    (∀ c ρ' z' d F' H', Qd c ρ' z' → StOk C σ ρ' F' H' z' → Same F F' → Keep C.pa F F' H H' → Ole ρ' ρ → R H F' H' d c → Q d H') →
    (∀ e ρ' z' cls dd F' H', Xd e ρ' z' → StOk C σ ρ' F' H' z' → Same F F' → ExR C F' H' e cls dd → W cls dd σ H') → r x y H Q
theorem den_op {α : Type} {ta tb : TE} {r : R2} {f : D → D → E α} {R : Hp → Hp → Hp → V → α → Prop} (hB : Back C R) (ha : Den C W ta ma (kT C)) (hb : Den C W tb mb (kT C)) (ho : Op2 C W r f R) :
    Den C W (tOp r ta tb) (eb ma fun x => eb mb fun y => f x y) R :=
  Den.bind (u := fun x σ H Q => tb σ H fun y H2 => r x y H2 Q) hB ha fun H0 σ ρ F H z a x Qd Xd Q S ra hm hq hx =>
    hb σ ρ F H z _ Xd _ S hm (fun d ρ2 z2 y F2 H2 q2 S2 ff2 k2 o2 rb => ho σ ρ2 F2 H2 z2 x y a d Qd Xd Q S2 (ra.keep ff2 k2).now rb.now q2
        (fun c ρ' z' d' F' H' q' S' ff' k' o' r' => hq c ρ' z' d' F' H' q' S' (ff2.trans ff') (k2.trans k') (o'.trans o2) (hB _ _ _ _ _ _ k2.dm r'))
        (fun e ρ' z' cls dd F' H' q' S' ff' r' => hx e ρ' z' cls dd F' H' q' S' (ff2.trans ff') r'))
      hx
/-- a one-place operation -/
def Op1 {α β : Type} (C : CC) (W : WX) (r : V → Hp → (β → Hp → Prop) → Prop) (f : D → E α) (R : Hp → Hp → Hp → β → α → Prop) : Prop :=
  ∀ (σ : L2.St) (ρ : Rho) (F H : Hp) (z : Zs) (x : V) (dx : D) (Qd : α → Rho → Zs → Prop) (Xd : Er → Rho → Zs → Prop) (Q : β → Hp → Prop), StOk C σ ρ F H z → RT C F H x dx → f dx ρ Qd Xd z →
    (∀ c ρ' z' d F' H', Qd c ρ' z' → StOk C σ ρ' F' H' z' → Same F F' → Keep C.pa F F' H H' → Ole ρ' ρ → R H F' H' d c → Q d H') →
    (∀ e ρ' z' cls dd F' H', Xd e ρ' z' → StOk C σ ρ' F' H' z' → Same F F' → ExR C F' H' e cls dd → W cls dd σ H') → r x H Q
theorem den_un {α β : Type} {ta : TE} {r : V → Hp → (β → Hp → Prop) → Prop} {f : D → E α} {R : Hp → Hp → Hp → β → α → Prop} (hB : Back C R) (ha : Den C W ta ma (kT C)) (ho : Op1 C W r f R) :
    Den C W (fun σ H Q => ta σ H fun x H1 => r x H1 Q) (eb ma f) R :=
  Den.bind (u := fun x _ H Q => r x H Q) hB ha fun H0 σ ρ F H z a x Qd Xd Q S ra hm hq hx => ho σ ρ F H z x a Qd Xd Q S ra.now hm hq hx

/-! ## new objects -/
theorem StOk.npa {σ : L2.St} {ρ : Rho} {F H : Hp} {z : Zs} (S : StOk C σ ρ F H z) {p : Addr} (h : H p = none) : some p ≠ C.pa := fun e => by
  obtain ⟨_, x, y, h2, _⟩ := S.pz p e.symm
  rw [h] at h2
  cases h2
section
variable {σ : L2.St} {ρ : Rho} {F H : Hp} {z : Zs} {p : Addr} {xs : List V} {ds : List D}
theorem StOk.newL (S : StOk C σ ρ F H z) (h : H p = none) (r : C.RL F xs ds) {Q : VK} {Qd : List D → Rho → Zs → Prop} (hd : Qd ds ρ z)
    (hq : ∀ c ρ' z' d F' H', Qd c ρ' z' → StOk C σ ρ' F' H' z' → Same F F' → Keep C.pa F F' H H' → Ole ρ' ρ → RO C H F' H' d c → Q d H') : Q (.ref p) (upd H p (.lst xs)) :=
  hq ds ρ z _ F _ hd (S.newH h) (Same.refl F) (Keep.new h) Ole.refl ⟨p, xs, rfl, upd_same, S.free h, h, S.npa h, r⟩
theorem StOk.newT (S : StOk C σ ρ F H z) (h : H p = none) (r : C.RL F xs ds) {Q : VK} {Qd : D → Rho → Zs → Prop} (hd : Qd (.tup ds) ρ z)
    (hq : ∀ c ρ' z' d F' H', Qd c ρ' z' → StOk C σ ρ' F' H' z' → Same F F' → Keep C.pa F F' H H' → Ole ρ' ρ → C.R F' d c → Q d H') : Q (.ref p) (upd H p (.tup xs)) :=
  hq (.tup ds) ρ z _ _ _ hd (S.newF h ngT) (Same.new (S.free h)) (Keep.newF h) Ole.refl (.tup (.inl (.inl upd_same)) (RpL.mono (Same.new (S.free h)) r))
/-- nothing changes -/
theorem StOk.same (S : StOk C σ ρ F H z) {α β : Type} {R : Hp → Hp → Hp → β → α → Prop} {Q : β → Hp → Prop} {Qd : α → Rho → Zs → Prop} {a : α} {b : β} (hd : Qd a ρ z) (r : R H F H b a)
    (hq : ∀ c ρ' z' d F' H', Qd c ρ' z' → StOk C σ ρ' F' H' z' → Same F F' → Keep C.pa F F' H H' → Ole ρ' ρ → R H F' H' d c → Q d H') : Q b H :=
  hq a ρ z b F H hd S (Same.refl F) Keep.refl Ole.refl r
end

/-! ## names, constants -/
def eVar (i : Nat) : E D := fun ρ Q _ z => match ρ[i]? with
  | some (.fr d) => Q d ρ z
  | some (.own ds) => Q (.lst ds) (ρ.set i (.fr (.lst ds))) z
  | _ => False
/-- a name as it stands, not kept -/
def ePk (i : Nat) : E D := fun ρ Q _ z => match ρ[i]? with
  | some (.fr d) => Q d ρ z
  | some (.own ds) => Q (.lst ds) ρ z
  | _ => False
theorem st_get {σ : L2.St} {ρ : Rho} {F H : Hp} {z : Zs} (S : StOk C σ ρ F H z) {i : Nat} {s : Sl} (h : ρ[i]? = some s) : ∃ v, σ[i]? = some v ∧ SlOk C F H v s := by
  have hi : i < σ.length := by rw [S.len]; exact (List.getElem?_eq_some_iff.mp h).1
  exact ⟨σ[i], List.getElem?_eq_getElem hi, S.env i _ _ (List.getElem?_eq_getElem hi) h⟩
theorem xp_var (i : Nat) {x : Str} {pos : Pos} (h : PE X (.Name x pos) (tVar i)) : XP X C W (.Name x pos) (ePk i) := by
  refine ⟨tVar i, h, fun σ ρ F H z Qd Xd Q S hm hq hx => ?_⟩
  unfold ePk at hm
  cases e : ρ[i]? with
  | none => rw [e] at hm; exact hm.elim
  | some s =>
    rw [e] at hm
    obtain ⟨v, e1, r⟩ := st_get S e
    cases s with
    | no => exact hm.elim
    | fr d =>
      cases v with
      | none => exact r.elim
      | some v => exact ⟨v, e1, S.same (R := kT C) hm (.inl r) hq⟩
    | own ds =>
      cases v with
      | none => exact r.elim
      | some v =>
        obtain ⟨a, xs, rfl, ha, hf, h0, np, rr, nh⟩ := r
        exact ⟨_, e1, S.same (R := kT C) hm (.inr ⟨a, xs, ds, rfl, rfl, ha, np, nog hf, rr⟩) hq⟩
/-- a slot that was owned is frozen -/
theorem StOk.frz {σ : L2.St} {ρ : Rho} {F H : Hp} {z : Zs} (S : StOk C σ ρ F H z) {i : Nat} {ds : List D} {a : Addr} {xs : List V} (h : ρ[i]? = some (.own ds)) (hs : σ[i]? = some (some (.ref a))) (ha : H a = some (.lst xs)) (hf : F a = none) (h0 : C.H0 a = none) (np : some a ≠ C.pa)
    (r : C.RL F xs ds) (nh : a ∉ C.hid) : StOk C σ (ρ.set i (.fr (.lst ds))) (upd F a (.lst xs)) H z := by
  have hi : i < ρ.length := (List.getElem?_eq_some_iff.mp h).1
  have hsub : Sub (upd F a (.lst xs)) H := fun b u e n => by
    by_cases q : b = a
    · subst q; rw [upd_same] at e; cases e; exact ha
    · rw [upd_ne q] at e; exact S.sub _ _ e n
  refine ⟨hsub, S.f0.trans (Same.new hf), S.h0.trans (Keep.frz ngL), fun b h1 h2 => ?_, by rw [List.length_set]; exact S.len, fun j v s e1 e2 => ?_, fun j k x y b e1 e2 e3 e4 => ?_, fun q e => ?_, fun b hb => ?_, S.cs.grow (Same.new hf) (fun _ _ e => gh_upd ngL e) fun _ _ _ _ e => e⟩
  · by_cases e : b = a
    · rw [e]; exact h0
    · rw [upd_ne e] at h1; exact S.nw b h1 h2
  · by_cases hj : j = i
    · subst hj
      rw [List.getElem?_set_self hi] at e2
      cases e2
      rw [hs] at e1
      cases e1
      exact .lst np upd_same (RpL.mono (Same.new hf) r)
    · rw [List.getElem?_set_ne (Ne.symm hj)] at e2
      have hh := S.env j v s e1 e2
      cases s with
      | no => cases v <;> trivial
      | fr d =>
        cases v with
        | none => exact hh.elim
        | some v => exact Rp.mono (Same.new hf) hh
      | own es =>
        cases v with
        | none => exact hh.elim
        | some v =>
          obtain ⟨b, ys, rfl, hb, hfb, h0b, npb, rb, nhb⟩ := hh
          have ne : b ≠ a := fun e => hj (S.apart j i es ds b e2 h e1 (by rw [hs, e]))
          exact ⟨b, ys, rfl, hb, by rw [upd_ne ne]; exact hfb, h0b, npb, RpL.mono (Same.new hf) rb, nhb⟩
  · have n1 : j ≠ i := fun e => by rw [e, List.getElem?_set_self hi] at e1; cases e1
    have n2 : k ≠ i := fun e => by rw [e, List.getElem?_set_self hi] at e2; cases e2
    rw [List.getElem?_set_ne (Ne.symm n1)] at e1
    rw [List.getElem?_set_ne (Ne.symm n2)] at e2
    exact S.apart j k x y b e1 e2 e3 e4
  · obtain ⟨h1, rr⟩ := S.pz q e
    have ne : q ≠ a := fun zz => np (by rw [← zz, e])
    exact ⟨by rw [upd_ne ne]; exact h1, rr⟩
  · obtain ⟨h1, rr⟩ := S.hd b hb
    have ne : b ≠ a := fun zz => nh (by rw [← zz]; exact hb)
    exact ⟨by rw [upd_ne ne]; exact h1, rr⟩
theorem ole_set {ρ : Rho} {i : Nat} {d : D} : Ole (ρ.set i (.fr d)) ρ := fun j ys h => by
  by_cases hj : j = i
  · subst hj
    by_cases hl : j < ρ.length
    · rw [List.getElem?_set_self hl] at h; cases h
    · rw [List.getElem?_eq_none (by rw [List.length_set]; omega)] at h; cases h
  · rw [List.getElem?_set_ne (Ne.symm hj)] at h
    exact ⟨ys, h⟩
theorem xe_var (i : Nat) {x : Str} {pos : Pos} (h : PE X (.Name x pos) (tVar i)) : XE X C W (.Name x pos) (eVar i) := by
  refine ⟨tVar i, h, fun σ ρ F H z Qd Xd Q S hm hq hx => ?_⟩
  unfold eVar at hm
  cases e : ρ[i]? with
  | none => rw [e] at hm; exact hm.elim
  | some s =>
    rw [e] at hm
    obtain ⟨v, e1, r⟩ := st_get S e
    cases s with
    | no => exact hm.elim
    | fr d =>
      cases v with
      | none => exact r.elim
      | some v => exact ⟨v, e1, S.same (R := kR C) hm r hq⟩
    | own ds =>
      cases v with
      | none => exact r.elim
      | some v =>
        obtain ⟨a, xs, rfl, ha, hf, h0, np, rr, nh⟩ := r
        exact ⟨_, e1, hq _ _ _ _ _ _ hm (S.frz e e1 ha hf h0 np rr nh) (Same.new hf) (Keep.frz ngL) ole_set (.lst np upd_same (RpL.mono (Same.new hf) rr))⟩
theorem xe_c {v : V} {d : D} (h : PE X e (tC v)) (r : ∀ F, C.R F v d) : XE X C W e (ep d) := ⟨tC v, h, fun σ ρ F H z Qd Xd Q S hm hq hx => S.same (R := kR C) hm (r F) hq⟩
theorem xe_int {i : Int} {j pos} : XE X C W (.Constant (.int i) j pos) (ep (.int i)) := xe_c pe_int fun _ => .int i
theorem xe_bl {b : Bool} {j pos} : XE X C W (.Constant (.bool b) j pos) (ep (.bl b)) := xe_c pe_bl fun _ => .bl b
theorem xe_non {j pos} : XE X C W (.Constant .none j pos) (ep .non) := xe_c pe_non fun _ => .non
theorem xe_str {x : Str} {j pos} : XE X C W (.Constant (.str x) j pos) (ep (.str x)) := xe_c pe_str fun _ => .str x

/-! ## arguments, displays -/
theorem xa_nil : XA X C W [] (ep []) := ⟨tNil, pa_nil, fun σ ρ F H z Qd Xd Q S hm hq hx => S.same (R := kL C) hm .nil hq⟩
theorem xa_cons {ms : E (List D)} (h : XE X C W e m) (hs : XA X C W es ms) (hp : starEach (e :: es) X.env = (false, eval e X.env) :: starEach es X.env := by rfl) : XA X C W (e :: es) (eb m fun d => eb ms fun ds => ep (d :: ds)) := by
  obtain ⟨t, h1, h2⟩ := h.ex
  obtain ⟨ts, g1, g2⟩ := hs.ex
  refine ⟨tCons t ts, pa_cons h1 g1 hp, Den.bind (u := fun x σ H Q => ts σ H fun xs H2 => Q (x :: xs) H2) back_L h2 fun H0 σ ρ F H z a x Qd Xd Q S ra hm hq hx => ?_⟩
  exact g2 σ ρ F H z _ Xd _ S hm (fun ds ρ2 z2 xs F2 H2 q2 S2 ff2 k2 o2 rb => hq _ ρ2 z2 _ F2 H2 q2 S2 ff2 k2 o2 (.cons (Rp.mono ff2 ra) rb)) hx
def eTup (ms : E (List D)) : E D := eb ms fun ds ρ Q _ z => ds.length ≤ 16777216 ∧ Q (.tup ds) ρ z
def eLst (ms : E (List D)) : E (List D) := eb ms fun ds ρ Q _ z => ds.length ≤ 16777216 ∧ Q ds ρ z
theorem line_le {n : Nat} (h : n ≤ 16777216) : n ≤ sizeLine := by rw [sizeLine_eq]; exact h
theorem xe_tup {ms : E (List D)} {x1} (hs : XA X C W es ms) : XE X C W (.Tuple es x1 pos) (eTup ms) := by
  obtain ⟨ts, g1, g2⟩ := hs.ex
  refine ⟨tTup ts, pe_tup g1, ?_⟩
  refine Den.bind (u := fun (xs : List V) (_ : L2.St) (H : Hp) (Q : VK) => xs.length ≤ sizeLine ∧ ∀ p, H p = none → Q (.ref p) (upd H p (.tup xs))) (f := fun ds ρ Q _ z => ds.length ≤ 16777216 ∧ Q (.tup ds) ρ z) back_R g2 ?_
  intro H0 σ ρ F H z a xs Qd Xd Q S ra hm hq hx
  exact ⟨by rw [RpL.length ra]; exact line_le hm.1, fun p hp => S.newT hp ra hm.2 hq⟩
theorem xo_lst {ms : E (List D)} (hs : XA X C W es ms) : XO X C W (.List es pos) (eLst ms) := by
  obtain ⟨ts, g1, g2⟩ := hs.ex
  refine ⟨tLst ts, pe_lst g1, ?_⟩
  refine Den.bind (u := fun (xs : List V) (_ : L2.St) (H : Hp) (Q : VK) => xs.length ≤ sizeLine ∧ ∀ p, H p = none → Q (.ref p) (upd H p (.lst xs))) (f := fun ds ρ Q _ z => ds.length ≤ 16777216 ∧ Q ds ρ z) back_O g2 ?_
  intro H0 σ ρ F H z a xs Qd Xd Q S ra hm hq hx
  exact ⟨by rw [RpL.length ra]; exact line_le hm.1, fun p hp => S.newL hp ra hm.2 hq⟩
end
end DL

namespace DL
open PySem PySem.Spec PyProof.Rows L2

/-! ## data as the library's data -/
mutual
def D.py : D → PyData
  | .non => .none
  | .bl b => .bool b
  | .int i => .int i
  | .str s => .str s
  | .lst xs => .list (pyL xs)
  | .tup xs => .tuple (pyL xs)
  | .cel => .none
  | .ins _ _ _ => .none
  | .dic _ _ => .none
  | .exn _ _ _ _ => .none
  | .scr _ => .none
  | .mc _ => .none
def pyL : List D → List PyData
  | [] => []
  | x :: r => x.py :: pyL r
end
mutual
def D.isPy : D → Bool
  | .non => true
  | .bl _ => true
  | .int _ => true
  | .str _ => true
  | .lst xs => isPyL xs
  | .tup xs => isPyL xs
  | .cel => false
  | .ins _ _ _ => false
  | .dic _ _ => false
  | .exn _ _ _ _ => false
  | .scr _ => false
  | .mc _ => false
def isPyL : List D → Bool
  | [] => true
  | x :: r => x.isPy && isPyL r
end
section
variable {K : PySem.W.Frag} {mg : Str → Option Value} {pa : Option Addr} {F H : Hp}
mutual
theorem Rp.dp (s : Sub F H) : ∀ {d : D} {v : V}, Rp K mg pa F v d → d.isPy = true → Dp K H v d.py
  | .non, _, h, _ => by cases h; exact .non
  | .bl _, _, h, _ => by cases h; exact .bl _
  | .int _, _, h, _ => by cases h; exact .int _
  | .str _, _, h, _ => by cases h; exact .str _
  | .lst ds, _, h, q => by cases h with | lst n e r => exact .lst (.inl (.inl (s _ _ e ngL))) (RpL.dp s r q)
  | .tup ds, _, h, q => by cases h with | tup e r => exact .tup (sqtSub s e) (RpL.dp s r q)
  | .cel, _, _, q => by cases q
  | .ins _ _ _, _, _, q => by cases q
  | .dic _ _, _, _, q => by cases q
  | .exn _ _ _ _, _, _, q => by cases q
  | .scr _, _, _, q => by cases q
theorem RpL.dp (s : Sub F H) : ∀ {ds : List D} {vs : List V}, RpL K mg pa F vs ds → isPyL ds = true → DpAll K H vs (pyL ds)
  | [], _, h, _ => by cases h; exact .nil
  | d :: ds, _, h, q => by
    cases h with
    | cons a b =>
      obtain ⟨q1, q2⟩ := Bool.and_eq_true_iff.mp (show (d.isPy && isPyL ds) = true from q)
      exact .cons (Rp.dp s a q1) (RpL.dp s b q2)
end
end
theorem RT.dp {C : CC} {F H : Hp} {v : V} {d : D} (s : Sub F H) (h : RT C F H v d) (q : d.isPy = true) : Dp C.K H v d.py := by
  rcases h with h | ⟨a, o, e1, e2, e3, e4⟩
  · exact Rp.dp s h q
  · subst e1
    cases d <;> first | exact e4.elim | skip
    · obtain ⟨xs, rfl, e5⟩ := e4
      exact .lst (.inl (.inl e2)) (RpL.dp s e5 q)
    · cases q

/-! ## what the operators do with data -/
abbrev P1 := D → (D → Prop) → Prop
abbrev P2 := D → D → (D → Prop) → Prop
def dAdd : P2
  | .int a, .int b, Q => Q (.int (a + b))
  | .str a, .str b, Q => a.length + b.length ≤ 16777216 ∧ Q (.str (a ++ b))
  | .tup a, .tup b, Q => a.length + b.length ≤ 16777216 ∧ Q (.tup (a ++ b))
  | .lst a, .lst b, Q => a.length + b.length ≤ 16777216 ∧ Q (.lst (a ++ b))
  | _, _, _ => False
def dCat : D → D → (List D → Prop) → Prop
  | .lst a, .lst b, Q => a.length + b.length ≤ 16777216 ∧ Q (a ++ b)
  | _, _, _ => False
def dSub : P2
  | .int a, .int b, Q => Q (.int (a - b))
  | _, _, _ => False
/-- * asks: one factor small, or both of bounded size -/
def MulC (a b : Int) : Prop := a.natAbs < 2 ^ 63 ∨ b.natAbs < 2 ^ 63 ∨ CMulW a b
def dMul : P2
  | .int a, .int b, Q => MulC a b ∧ Q (.int (a * b))
  | _, _, _ => False
def dDiv : P2
  | .int a, .int b, Q => (b ≠ 0 ∧ b.natAbs.log2 < 9000) ∧ Q (.int (a.fdiv b))
  | _, _, _ => False
def dMod : P2
  | .int a, .int b, Q => b ≠ 0 ∧ Q (.int (a.fmod b))
  | _, _, _ => False
def dPow : P2
  | .int a, .int b, Q => (0 ≤ b ∧ (Builtin.Int.intBits a : Int) * b ≤ 2 ^ 27) ∧ Q (.int (a ^ b.toNat))
  | _, _, _ => False
def dEqG (a b : D) (Q : Bool → Prop) : Prop := (a.isPy = true ∧ b.isPy = true ∧ SeqAt.shaped a.py = true ∧ SeqAt.shaped b.py = true) ∧ Q (PyData.eqv a.py b.py)
/-- == -/
def dEqB : D → D → (Bool → Prop) → Prop
  | .int a, .int b, Q => Q (decide (a = b))
  | .str a, .str b, Q => Q (decide (a = b))
  | .bl a, .bl b, Q => Q (decide (a = b))
  | a, b, Q => dEqG a b Q
def dEq : P2 := fun a b Q => dEqB a b fun t => Q (.bl t)
def dNe : P2 := fun a b Q => dEqB a b fun t => Q (.bl (!t))
def dLt : P2
  | .int a, .int b, Q => Q (.bl (decide (a < b)))
  | .str a, .str b, Q => Q (.bl (decide (a.cps.toList < b.cps.toList)))
  | _, _, _ => False
def dLe : P2
  | .int a, .int b, Q => Q (.bl (decide (a ≤ b)))
  | _, _, _ => False
def dGt : P2
  | .int a, .int b, Q => Q (.bl (decide (b < a)))
  | _, _, _ => False
def dGe : P2
  | .int a, .int b, Q => Q (.bl (decide (b ≤ a)))
  | _, _, _ => False
def dIsN : P2
  | a, .non, Q => Q (.bl (match a with | .non => true | _ => false))
  | _, _, _ => False
def dNotN : P2
  | a, .non, Q => Q (.bl (match a with | .non => false | _ => true))
  | _, _, _ => False
/-- in -/
def dInB : D → D → (Bool → Prop) → Prop
  | .str a, .str b, Q => Q (!(Builtin.Str.occurrences b a 0 b.length 1).isEmpty)
  | a, .lst ds, Q => (a.isPy = true ∧ isPyL ds = true ∧ SeqAt.shaped a.py = true ∧ SeqAt.shaped (.list (pyL ds)) = true) ∧ Q ((pyL ds).any fun z => PyData.eqv z a.py)
  | _, _, _ => False
def dIn : P2 := fun a b Q => dInB a b fun t => Q (.bl t)
def dNotIn : P2 := fun a b Q => dInB a b fun t => Q (.bl (!t))
def dNeg : P1
  | .int a, Q => Q (.int (-a))
  | _, _ => False
def dNot : P1
  | .bl a, Q => Q (.bl (!a))
  | _, _ => False
def dIx : P2
  | .lst ds, .int i, Q => ∃ d, atI ds i = some d ∧ Q d
  | .tup ds, .int i, Q => ∃ d, atI ds i = some d ∧ Q d
  | .str s, .int i, Q => s.length ≤ 16777216 ∧ ∃ c, atI s.cps.toList i = some c ∧ Q (.str ⟨#[c]⟩)
  | .scr ns, .int i, Q => ∃ j, atI ns i = some j ∧ Q (.int j)
  | _, _, _ => False
/-- truth -/
def dTru : D → (Bool → Prop) → Prop
  | .non, Q => Q false
  | .bl b, Q => Q b
  | .int i, Q => Q (i != 0)
  | .str s, Q => s.length ≤ 16777216 ∧ Q ((s.length : Int) != 0)
  | .lst ds, Q => Q (!ds.isEmpty)
  | .tup ds, Q => Q (!ds.isEmpty)
  | _, _ => False

section
variable {X : Cx} {C : CC} {W : WX} {e a b c : Expr} {es : List Expr} {m ma mb mc : E D} {pos : Pos} {k : Nat}
/-- an operation whose answer is no new object -/
theorem op2_flat {r : R2} {p : P2} (h : ∀ (F H : Hp) (x y : V) (dx dy : D) (Q : VK) (Qd : D → Prop), Sub F H → RT C F H x dx → RT C F H y dy → p dx dy Qd → (∀ d v, Qd d → C.R F v d → Q v H) → r x y H Q) :
    Op2 C W r (fun a b => eP (p a b)) (kR C) := fun σ ρ F H z x y dx dy Qd Xd Q S rx ry hm hq hx => h F H x y dx dy Q _ S.sub rx ry hm fun d v q rv => S.same (R := kR C) q rv hq
theorem op1_flat {r : V → Hp → VK → Prop} {p : P1} (h : ∀ (F H : Hp) (x : V) (dx : D) (Q : VK) (Qd : D → Prop), Sub F H → RT C F H x dx → p dx Qd → (∀ d v, Qd d → C.R F v d → Q v H) → r x H Q) :
    Op1 C W r (fun a => eP (p a)) (kR C) := fun σ ρ F H z x dx Qd Xd Q S rx hm hq hx => h F H x dx Q _ S.sub rx hm fun d v q rv => S.same (R := kR C) q rv hq
theorem op1_test {r : V → Hp → (Bool → Hp → Prop) → Prop} {p : D → (Bool → Prop) → Prop} (h : ∀ (F H : Hp) (x : V) (dx : D) (Q : Bool → Hp → Prop) (Qd : Bool → Prop), Sub F H → RT C F H x dx → p dx Qd → (∀ d, Qd d → Q d H) → r x H Q) :
    Op1 C W r (fun a => eP (p a)) kB := fun σ ρ F H z x dx Qd Xd Q S rx hm hq hx => h F H x dx Q _ S.sub rx hm fun d q => S.same (R := kB) q rfl hq

theorem xe_op {op : Operator} {r : R2} {f : D → D → E D} (h : OpR X (binaryOp op) r) (ho : Op2 C W r f (kR C)) (ha : XP X C W a ma) (hb : XP X C W b mb) : XE X C W (.BinOp a op b pos) (eb ma fun x => eb mb fun y => f x y) := by
  obtain ⟨ta, a1, a2⟩ := ha.ex
  obtain ⟨tb, b1, b2⟩ := hb.ex
  exact ⟨_, pe_op h a1 b1, den_op back_R a2 b2 ho⟩
theorem xe_cmp {op : CmpOp} {r : R2} {f : D → D → E D} (h : OpR X (compareOp op) r) (ho : Op2 C W r f (kR C)) (ha : XP X C W a ma) (hb : XP X C W b mb) (hm : behindInMarks op b = false) : XE X C W (.Compare a [op] [b] pos) (eb ma fun x => eb mb fun y => f x y) := by
  obtain ⟨ta, a1, a2⟩ := ha.ex
  obtain ⟨tb, b1, b2⟩ := hb.ex
  exact ⟨_, pe_cmpR h a1 b1 hm, den_op back_R a2 b2 ho⟩
/-- a bool's test -/
def fT : D → E Bool
  | .bl t => ep t
  | _ => fun _ _ _ _ => False
def eT (m : E D) : E Bool := eb m fT
theorem den_test {t : TE} {m : E D} (h : Den C W t m (kR C)) : Den C W (tTest t) (eT m) kB := by
  refine Den.bind (u := fun (x : V) (_ : L2.St) (H : Hp) (Q : Bool → Hp → Prop) => ∃ k, x = .bl k ∧ Q k H) (f := fT) back_B h ?_
  intro H0 σ ρ F H z d x Qd Xd Q S ra hm hq hx
  cases d with
  | bl t =>
    cases ra
    exact ⟨t, rfl, S.same (R := kB) hm rfl hq⟩
  | _ => exact False.elim hm
theorem xt_cmp {op : CmpOp} {r : R2} {f : D → D → E D} (h : OpR X (compareOp op) r) (ho : Op2 C W r f (kR C)) (ha : XP X C W a ma) (hb : XP X C W b mb) (hm : behindInMarks op b = false) : XT X C W (.Compare a [op] [b] pos) (eT (eb ma fun x => eb mb fun y => f x y)) := by
  obtain ⟨ta, a1, a2⟩ := ha.ex
  obtain ⟨tb, b1, b2⟩ := hb.ex
  exact ⟨_, pt_cmpR h a1 b1 hm, den_test (den_op back_R a2 b2 ho)⟩

/-! ### the operators -/
theorem o_sub : Op2 C W (rI0 fun i j => .int (i - j)) (fun a b => eP (dSub a b)) (kR C) := op2_flat fun F H x y dx dy Q Qd s rx ry hp hq => by
  cases dx <;> cases dy <;> first | exact hp.elim | exact ⟨_, _, rx.int, ry.int, hq _ _ hp (.int _)⟩
theorem bits_le {i : Int} {n : Nat} (h : i.natAbs < 2 ^ n) (hn : 0 < n) : Builtin.Int.intBits i ≤ n := by
  have := PySem.Flt.log2_lt_of hn h
  unfold Builtin.Int.intBits
  split <;> omega
theorem op_mulG : OpR X (binaryOp .Mult) (rI MulC fun i j => .int (i * j)) := opI fun i j t u s Q E hc q => by
  refine mul_int q ?_
  rcases hc with h | h | h
  · exact IntMulOk.of_left (Nat.le_trans (bits_le h (by omega)) (by omega))
  · exact IntMulOk.of_right (Nat.le_trans (bits_le h (by omega)) (by omega))
  · exact h.ok
theorem o_mul : Op2 C W (rI MulC fun i j => .int (i * j)) (fun a b => eP (dMul a b)) (kR C) := op2_flat fun F H x y dx dy Q Qd s rx ry hp hq => by
  cases dx <;> cases dy <;> first | exact hp.elim | exact ⟨_, _, rx.int, ry.int, hp.1, hq _ _ hp.2 (.int _)⟩
theorem op_divG : OpR X (binaryOp .FloorDiv) (rI (fun _ j => j ≠ 0 ∧ j.natAbs.log2 < 9000) fun i j => .int (i.fdiv j)) :=
  opI fun i j t u s Q E hc q => floordiv_int hc.1 q (.inl (PyProof.noPylong_of_log2 hc.2))
theorem o_div : Op2 C W (rI (fun _ j => j ≠ 0 ∧ j.natAbs.log2 < 9000) fun i j => .int (i.fdiv j)) (fun a b => eP (dDiv a b)) (kR C) := op2_flat fun F H x y dx dy Q Qd s rx ry hp hq => by
  cases dx <;> cases dy <;> first | exact hp.elim | exact ⟨_, _, rx.int, ry.int, hp.1, hq _ _ hp.2 (.int _)⟩
theorem o_mod : Op2 C W (rI (fun _ j => j ≠ 0) fun i j => .int (i.fmod j)) (fun a b => eP (dMod a b)) (kR C) := op2_flat fun F H x y dx dy Q Qd s rx ry hp hq => by
  cases dx <;> cases dy <;> first | exact hp.elim | exact ⟨_, _, rx.int, ry.int, hp.1, hq _ _ hp.2 (.int _)⟩
theorem op_powG : OpR X (binaryOp .Pow) (rI (fun i j => 0 ≤ j ∧ (Builtin.Int.intBits i : Int) * j ≤ 2 ^ 27) fun i j => .int (i ^ j.toNat)) :=
  opI fun i j t u s Q E hc q => pow_int hc.1 hc.2 q
theorem o_pow : Op2 C W (rI (fun i j => 0 ≤ j ∧ (Builtin.Int.intBits i : Int) * j ≤ 2 ^ 27) fun i j => .int (i ^ j.toNat)) (fun a b => eP (dPow a b)) (kR C) := op2_flat fun F H x y dx dy Q Qd s rx ry hp hq => by
  cases dx <;> cases dy <;> first | exact hp.elim | exact ⟨_, _, rx.int, ry.int, hp.1, hq _ _ hp.2 (.int _)⟩
def rAdd4 (K : PySem.W.Frag) : R2 := fun x y H Q => rI0 (fun i j => .int (i + j)) x y H Q ∨ (∃ i j, x = .str i ∧ y = .str j ∧ i.length + j.length ≤ sizeLine ∧ Q (.str (i ++ j)) H) ∨ rCat x y H Q ∨ rCatA K x y H Q
theorem op_add4 : OpR X (binaryOp .Add) (rAdd4 X.K) := op_add.or (op_add_str.or (op_cat.or op_catA))
theorem o_add : Op2 C W (rAdd4 C.K) (fun a b => eP (dAdd a b)) (kR C) := fun σ ρ F H z x y dx dy Qd Xd Q S rx ry hm hq hx => by
  cases dx <;> cases dy <;> first | exact hm.elim | skip
  · exact .inl ⟨_, _, rx.int, ry.int, S.same (R := kR C) hm (.int _) hq⟩
  · exact .inr (.inl ⟨_, _, rx.str, ry.str, line_le hm.1, S.same (R := kR C) hm.2 (.str _) hq⟩)
  · obtain ⟨p, xs, e1, e2, e3, e4⟩ := rx.lst S.sub
    obtain ⟨q, ys, f1, f2, f3, f4⟩ := ry.lst S.sub
    refine .inr (.inr (.inl ⟨p, q, xs, ys, e1, f1, e2, f2, by rw [RpL.length e3, RpL.length f3]; exact line_le hm.1, fun n hn => ?_⟩))
    have hF : F n = none := S.free hn
    have hr := RpL.mono (Same.new (o := .lst (xs ++ ys)) hF) (RpL.append e3 f3)
    exact hq _ ρ z _ _ _ hm.2 (S.newF hn ngL) (Same.new hF) (Keep.newF hn) Ole.refl (.lst (S.npa hn) upd_same hr)
  · rename_i ds1 ds2
    obtain ⟨p, xs, e1, e2, e3⟩ := rx.tup S.sub
    obtain ⟨q, ys, f1, f2, f3⟩ := ry.tup S.sub
    refine .inr (.inr (.inr ⟨p, q, xs, ys, e1, f1, e2, f2, by rw [RpL.length e3, RpL.length f3]; exact line_le hm.1, fun hz => ?_, fun _ hz => ?_, fun _ _ n hn => ?_⟩))
    · subst hz
      cases e3
      have ry' : C.R F (.ref q) (.tup ds2) := by
        have h := ry.fro fun _ z => z
        rw [f1] at h; exact h
      exact S.same (R := kR C) hm.2 ry' hq
    · subst hz
      cases f3
      have rx' : C.R F (.ref p) (.tup ds1) := by
        have h := rx.fro fun _ z => z
        rw [e1] at h; exact h
      have hm2 := hm.2
      rw [List.append_nil] at hm2
      exact S.same (R := kR C) hm2 rx' hq
    · exact S.newT hn (RpL.append e3 f3) hm.2 hq
theorem o_cat : Op2 C W (rAdd4 C.K) (fun a b => eP (dCat a b)) (RO C) := fun σ ρ F H z x y dx dy Qd Xd Q S rx ry hm hq hx => by
  cases dx <;> cases dy <;> first | exact hm.elim | skip
  obtain ⟨p, xs, e1, e2, e3, e4⟩ := rx.lst S.sub
  obtain ⟨q, ys, f1, f2, f3, f4⟩ := ry.lst S.sub
  exact .inr (.inr (.inl ⟨p, q, xs, ys, e1, f1, e2, f2, by rw [RpL.length e3, RpL.length f3]; exact line_le hm.1, fun n hn => S.newL hn (RpL.append e3 f3) hm.2 hq⟩))
def rEq2 (K : PySem.W.Frag) : R2 := fun x y H Q => rEq x y H Q ∨ rEqD K x y H Q
def rNe2 (K : PySem.W.Frag) : R2 := fun x y H Q => rNe x y H Q ∨ rNeD K x y H Q
theorem op_eq2 (hu : X.A.units + 65 < cLine) : OpR X (compareOp .Eq) (rEq2 X.K) := op_eq.or (op_eqD (by omega))
theorem op_ne2 (hu : X.A.units + 65 < cLine) : OpR X (compareOp .NotEq) (rNe2 X.K) := op_ne.or (op_neD (by omega))
theorem eqG_to {F H : Hp} {x y : V} {dx dy : D} {Qd : Bool → Prop} (s : Sub F H) (rx : RT C F H x dx) (ry : RT C F H y dy) (h : dEqG dx dy Qd) :
    Dp C.K H x dx.py ∧ Dp C.K H y dy.py ∧ SeqAt.shaped dx.py = true ∧ SeqAt.shaped dy.py = true ∧ Qd (PyData.eqv dx.py dy.py) := by
  obtain ⟨⟨h1, h2, h3, h4⟩, h5⟩ := h
  exact ⟨rx.dp s h1, ry.dp s h2, h3, h4, h5⟩
theorem o_eq : Op2 C W (rEq2 C.K) (fun a b => eP (dEq a b)) (kR C) := op2_flat fun F H x y dx dy Q Qd s rx ry hp hq => by
  have gen : dEqG dx dy (fun t => Qd (.bl t)) → rEq2 C.K x y H Q := fun h => by
    obtain ⟨h1, h2, h3, h4, h5⟩ := eqG_to s rx ry h
    exact .inr ⟨_, _, h1, h2, h3, h4, hq _ _ h5 (.bl _)⟩
  cases dx <;> cases dy <;> first
    | exact gen hp
    | (refine .inl ?_
       first
         | (rw [rx.int, ry.int]; exact ⟨rfl, hq _ _ hp (by rw [dec_int]; exact .bl _)⟩)
         | (rw [rx.int, ry.int]; refine ⟨rfl, ?_⟩; rw [dec_int]; exact hq _ _ hp (.bl _))
         | (rw [rx.str, ry.str]; refine ⟨rfl, ?_⟩; rw [dec_str]; exact hq _ _ hp (.bl _))
         | (rw [rx.bl, ry.bl]; refine ⟨rfl, ?_⟩; rw [dec_bl]; exact hq _ _ hp (.bl _)))
theorem o_ne : Op2 C W (rNe2 C.K) (fun a b => eP (dNe a b)) (kR C) := op2_flat fun F H x y dx dy Q Qd s rx ry hp hq => by
  have gen : dEqG dx dy (fun t => Qd (.bl (!t))) → rNe2 C.K x y H Q := fun h => by
    obtain ⟨h1, h2, h3, h4, h5⟩ := eqG_to s rx ry h
    exact .inr ⟨_, _, h1, h2, h3, h4, hq _ _ h5 (.bl _)⟩
  cases dx <;> cases dy <;> first
    | exact gen hp
    | (refine .inl ?_
       first
         | (rw [rx.int, ry.int]; refine ⟨rfl, ?_⟩; rw [dec_int]; exact hq _ _ hp (.bl _))
         | (rw [rx.str, ry.str]; refine ⟨rfl, ?_⟩; rw [dec_str]; exact hq _ _ hp (.bl _))
         | (rw [rx.bl, ry.bl]; refine ⟨rfl, ?_⟩; rw [dec_bl]; exact hq _ _ hp (.bl _)))
def rLt2 : R2 := fun x y H Q => rI0 (fun i j => .bl (decide (i < j))) x y H Q ∨ (∃ i j, x = .str i ∧ y = .str j ∧ Q (.bl (decide (i.cps.toList < j.cps.toList))) H)
theorem op_lt2 : OpR X (compareOp .Lt) rLt2 := op_lt.or op_lt_str
theorem o_lt : Op2 C W rLt2 (fun a b => eP (dLt a b)) (kR C) := op2_flat fun F H x y dx dy Q Qd s rx ry hp hq => by
  cases dx <;> cases dy <;> first | exact hp.elim | exact .inl ⟨_, _, rx.int, ry.int, hq _ _ hp (.bl _)⟩ | exact .inr ⟨_, _, rx.str, ry.str, hq _ _ hp (.bl _)⟩
theorem o_le : Op2 C W (rI0 fun i j => .bl (decide (i ≤ j))) (fun a b => eP (dLe a b)) (kR C) := op2_flat fun F H x y dx dy Q Qd s rx ry hp hq => by
  cases dx <;> cases dy <;> first | exact hp.elim | exact ⟨_, _, rx.int, ry.int, hq _ _ hp (.bl _)⟩
theorem o_gt : Op2 C W (rI0 fun i j => .bl (decide (j < i))) (fun a b => eP (dGt a b)) (kR C) := op2_flat fun F H x y dx dy Q Qd s rx ry hp hq => by
  cases dx <;> cases dy <;> first | exact hp.elim | exact ⟨_, _, rx.int, ry.int, hq _ _ hp (.bl _)⟩
theorem o_ge : Op2 C W (rI0 fun i j => .bl (decide (j ≤ i))) (fun a b => eP (dGe a b)) (kR C) := op2_flat fun F H x y dx dy Q Qd s rx ry hp hq => by
  cases dx <;> cases dy <;> first | exact hp.elim | exact ⟨_, _, rx.int, ry.int, hq _ _ hp (.bl _)⟩
theorem RT.isNon {F H : Hp} {v : V} {d : D} (h : RT C F H v d) : decide (v = .non) = (match d with | .non => true | _ => false) := by
  rcases h with h | ⟨_, _, e1, _, _, e2⟩
  · cases h <;> rfl
  · subst e1
    cases d <;> first | exact e2.elim | rfl
theorem o_isN : Op2 C W (fun x y H Q => y = .non ∧ Q (.bl (decide (x = .non))) H) (fun a b => eP (dIsN a b)) (kR C) := op2_flat fun F H x y dx dy Q Qd s rx ry hp hq => by
  cases dy
  all_goals first
    | (refine ⟨ry.non, ?_⟩; rw [rx.isNon]; exact hq _ _ (by cases dx <;> exact hp) (.bl _))
    | (cases dx <;> exact False.elim hp)
theorem o_notN : Op2 C W (fun x y H Q => y = .non ∧ Q (.bl (!decide (x = .non))) H) (fun a b => eP (dNotN a b)) (kR C) := op2_flat fun F H x y dx dy Q Qd s rx ry hp hq => by
  cases dy
  all_goals first
    | (refine ⟨ry.non, ?_⟩; rw [rx.isNon]; exact hq _ _ (by cases dx <;> exact hp) (.bl _))
    | (cases dx <;> exact False.elim hp)
def rIn2 (K : PySem.W.Frag) : R2 := fun x y H Q => (∃ i j, x = .str i ∧ y = .str j ∧ Q (.bl (!(Builtin.Str.occurrences j i 0 j.length 1).isEmpty)) H) ∨ rInD K x y H Q
def rNotIn2 (K : PySem.W.Frag) : R2 := fun x y H Q => (∃ i j, x = .str i ∧ y = .str j ∧ Q (.bl (!(!(Builtin.Str.occurrences j i 0 j.length 1).isEmpty))) H) ∨ rNotInD K x y H Q
theorem op_in2 (hu : X.A.units + 65 < cLine) : OpR X (compareOp .In) (rIn2 X.K) := op_in_str.or (op_inD hu)
theorem op_notIn2 (hu : X.A.units + 65 < cLine) : OpR X (compareOp .NotIn) (rNotIn2 X.K) := op_notIn_str.or (op_notInD hu)
theorem o_in : Op2 C W (rIn2 C.K) (fun a b => eP (dIn a b)) (kR C) := op2_flat fun F H x y dx dy Q Qd s rx ry hp hq => by
  cases dy <;> first
    | (cases dx <;> first | exact hp.elim | exact .inl ⟨_, _, rx.str, ry.str, hq _ _ hp (.bl _)⟩)
    | skip
  rename_i ds
  have hp' : (dx.isPy = true ∧ isPyL ds = true ∧ SeqAt.shaped dx.py = true ∧ SeqAt.shaped (.list (pyL ds)) = true) ∧ Qd (.bl ((pyL ds).any fun z => PyData.eqv z dx.py)) := by cases dx <;> exact hp
  obtain ⟨⟨h1, h2, h3, h4⟩, h5⟩ := hp'
  exact .inr ⟨_, _, rx.dp s h1, ry.dp s h2, h3, h4, hq _ _ h5 (.bl _)⟩
theorem o_notIn : Op2 C W (rNotIn2 C.K) (fun a b => eP (dNotIn a b)) (kR C) := op2_flat fun F H x y dx dy Q Qd s rx ry hp hq => by
  cases dy <;> first
    | (cases dx <;> first | exact hp.elim | exact .inl ⟨_, _, rx.str, ry.str, hq _ _ hp (.bl _)⟩)
    | skip
  rename_i ds
  have hp' : (dx.isPy = true ∧ isPyL ds = true ∧ SeqAt.shaped dx.py = true ∧ SeqAt.shaped (.list (pyL ds)) = true) ∧ Qd (.bl (!(pyL ds).any fun z => PyData.eqv z dx.py)) := by cases dx <;> exact hp
  obtain ⟨⟨h1, h2, h3, h4⟩, h5⟩ := hp'
  exact .inr ⟨_, _, rx.dp s h1, ry.dp s h2, h3, h4, hq _ _ h5 (.bl _)⟩
theorem o_neg : Op1 C W (rU fun i => .int (-i)) (fun a => eP (dNeg a)) (kR C) := op1_flat fun F H x dx Q Qd s rx hp hq => by
  cases dx <;> first | exact hp.elim | exact ⟨_, rx.int, hq _ _ hp (.int _)⟩
theorem xe_neg (ha : XP X C W a ma) : XE X C W (.UnaryOp .USub a pos) (eb ma fun x => eP (dNeg x)) := by
  obtain ⟨ta, a1, a2⟩ := ha.ex
  exact ⟨_, pe_un un_neg a1, den_un (β := V) (r := rU fun i => .int (-i)) back_R a2 o_neg⟩
/-- not, of a bool -/
theorem xe_not (ha : XP X C W a ma) : XE X C W (.UnaryOp .Not a pos) (eb ma fun x => eP (dNot x)) := by
  obtain ⟨ta, a1, a2⟩ := ha.ex
  refine ⟨_, pe_not a1, ?_⟩
  refine den_un (β := V) (r := fun x H (Q : VK) => ∃ c, x = .bl c ∧ Q (.bl (!c)) H) (f := fun x => eP (dNot x)) back_R a2 (op1_flat fun F H x dx Q Qd s rx hp hq => ?_)
  cases dx <;> first | exact hp.elim | exact ⟨_, rx.bl, hq _ _ hp (.bl _)⟩

/-! ### truth, tests -/
theorem o_tru : Op1 C W (fun x H Q => ∃ k, TruV C.K x H k ∧ Q k H) (fun a => eP (dTru a)) kB := op1_test fun F H x dx Q Qd s rx hp hq => by
  cases dx <;> first | exact hp.elim | skip
  · rw [rx.non]; exact ⟨_, rfl, hq _ hp⟩
  · rw [rx.bl]; exact ⟨_, rfl, hq _ hp⟩
  · rw [rx.int]; exact ⟨_, rfl, hq _ hp⟩
  · rw [rx.str]; exact ⟨_, ⟨line_le hp.1, rfl⟩, hq _ hp.2⟩
  · rename_i ds
    obtain ⟨p, xs, e1, e2, e3, e4⟩ := rx.lst s
    subst e1
    have e : (!xs.isEmpty) = !ds.isEmpty := by cases e3 <;> rfl
    exact ⟨_, .inl ⟨xs, .inl (.inl e2), e.symm⟩, hq _ hp⟩
  · rename_i ds
    obtain ⟨p, xs, e1, e2, e3⟩ := rx.tup s
    subst e1
    have e : (!xs.isEmpty) = !ds.isEmpty := by cases e3 <;> rfl
    exact ⟨_, .inr (.inl ⟨xs, e2, e.symm⟩), hq _ hp⟩
/-- any value, by its truth -/
theorem xt_tru (hk : X.K = C.K) (ha : XP X C W a ma) (he : ∀ whole, isTrue a X.env whole = (do let v ← whole; standAt a.pos; holding [v] (truthy v)) := by intro _; rfl) : XT X C W a (eb ma fun x => eP (dTru x)) := by
  obtain ⟨ta, a1, a2⟩ := ha.ex
  refine ⟨_, pt_truth a1 he, ?_⟩
  rw [hk]
  exact den_un (r := fun x H (Q : Bool → Hp → Prop) => ∃ k, TruV C.K x H k ∧ Q k H) back_B a2 o_tru
theorem xt_not {mt : E Bool} (ha : XT X C W a mt) : XT X C W (.UnaryOp .Not a pos) (eb mt fun t => ep (!t)) := by
  obtain ⟨ta, a1, a2⟩ := ha.ex
  refine ⟨_, pt_not a1, ?_⟩
  exact Den.bind (u := fun (c : Bool) (_ : L2.St) (H : Hp) (Q : Bool → Hp → Prop) => Q (!c) H) (f := fun t => ep (!t)) back_B a2 fun H0 σ ρ F H z t c Qd Xd Q S ra hm hq hx => by
    cases ra
    exact S.same (R := kB) hm rfl hq
def eIf {α : Type} (mt : E Bool) (ma mb : E α) : E α := eb mt fun t => if t = true then ma else mb
theorem den_if {α β : Type} {tt : TT} {ta tb : L2.St → Hp → (β → Hp → Prop) → Prop} {mt : E Bool} {m1 m2 : E α} {R : Hp → Hp → Hp → β → α → Prop} (hB : Back C R) (ht : Den C W tt mt kB) (h1 : Den C W ta m1 R) (h2 : Den C W tb m2 R) :
    Den C W (fun σ H Q => tt σ H fun c H1 => if c = true then ta σ H1 Q else tb σ H1 Q) (eIf mt m1 m2) R :=
  Den.bind (u := fun (c : Bool) σ H Q => if c = true then ta σ H Q else tb σ H Q) (f := fun t => if t = true then m1 else m2) hB ht fun H0 σ ρ F H z t c Qd Xd Q S ra hm hq hx => by
    have ec : c = t := ra
    rw [ec]
    cases t with
    | true => exact h1 σ ρ F H z Qd Xd Q S hm hq hx
    | false => exact h2 σ ρ F H z Qd Xd Q S hm hq hx
theorem xe_if {mt : E Bool} {m1 m2 : E D} {c : Expr} (hc : XT X C W c mt) (ha : XE X C W a m1) (hb : XE X C W b m2) : XE X C W (.IfExp c a b pos) (eIf mt m1 m2) := by
  obtain ⟨tc, c1, c2⟩ := hc.ex
  obtain ⟨ta, a1, a2⟩ := ha.ex
  obtain ⟨tb, b1, b2⟩ := hb.ex
  exact ⟨_, pe_ifExp c1 a1 b1, den_if back_R c2 a2 b2⟩
theorem xp_if {mt : E Bool} {m1 m2 : E D} {c : Expr} (hc : XT X C W c mt) (ha : XP X C W a m1) (hb : XP X C W b m2) : XP X C W (.IfExp c a b pos) (eIf mt m1 m2) := by
  obtain ⟨tc, c1, c2⟩ := hc.ex
  obtain ⟨ta, a1, a2⟩ := ha.ex
  obtain ⟨tb, b1, b2⟩ := hb.ex
  exact ⟨_, pe_ifExp c1 a1 b1, den_if back_T c2 a2 b2⟩
theorem xo_if {mt : E Bool} {m1 m2 : E (List D)} {c : Expr} (hc : XT X C W c mt) (ha : XO X C W a m1) (hb : XO X C W b m2) : XO X C W (.IfExp c a b pos) (eIf mt m1 m2) := by
  obtain ⟨tc, c1, c2⟩ := hc.ex
  obtain ⟨ta, a1, a2⟩ := ha.ex
  obtain ⟨tb, b1, b2⟩ := hb.ex
  exact ⟨_, pe_ifExp c1 a1 b1, den_if back_O c2 a2 b2⟩
def eAnd (m1 m2 : E Bool) : E Bool := eb m1 fun t => if t = true then m2 else ep false
def eOr (m1 m2 : E Bool) : E Bool := eb m1 fun t => if t = true then ep true else m2
theorem den_and {t u : TT} {m1 m2 : E Bool} (h1 : Den C W t m1 kB) (h2 : Den C W u m2 kB) : Den C W (tAnd t u) (eAnd m1 m2) kB :=
  Den.bind (u := fun (c : Bool) σ H Q => if c = true then u σ H Q else Q false H) (f := fun t => if t = true then m2 else ep false) back_B h1 fun H0 σ ρ F H z t c Qd Xd Q S ra hm hq hx => by
    have ec : c = t := ra
    rw [ec]
    cases t with
    | true => exact h2 σ ρ F H z Qd Xd Q S hm hq hx
    | false => exact S.same (R := kB) hm rfl hq
theorem den_or {t u : TT} {m1 m2 : E Bool} (h1 : Den C W t m1 kB) (h2 : Den C W u m2 kB) : Den C W (tOr t u) (eOr m1 m2) kB :=
  Den.bind (u := fun (c : Bool) σ H Q => if c = true then Q true H else u σ H Q) (f := fun t => if t = true then ep true else m2) back_B h1 fun H0 σ ρ F H z t c Qd Xd Q S ra hm hq hx => by
    have ec : c = t := ra
    rw [ec]
    cases t with
    | false => exact h2 σ ρ F H z Qd Xd Q S hm hq hx
    | true => exact S.same (R := kB) hm rfl hq
section
variable {rest : List Expr} {m1 m2 : E Bool}
theorem xw_and1 (ha : XT X C W a m1) : XW X C W (.BoolOp .And [a] pos) m1 := by
  obtain ⟨ta, a1, a2⟩ := ha.ex
  exact ⟨_, pw_and1 a1, a2⟩
theorem xw_or1 (ha : XT X C W a m1) : XW X C W (.BoolOp .Or [a] pos) m1 := by
  obtain ⟨ta, a1, a2⟩ := ha.ex
  exact ⟨_, pw_or1 a1, a2⟩
theorem xw_and (ha : XT X C W a m1) (hb : XW X C W (.BoolOp .And (b :: rest) pos) m2) : XW X C W (.BoolOp .And (a :: b :: rest) pos) (eAnd m1 m2) := by
  obtain ⟨ta, a1, a2⟩ := ha.ex
  obtain ⟨tb, b1, b2⟩ := hb.ex
  exact ⟨_, pw_and a1 b1, den_and a2 b2⟩
theorem xw_or (ha : XT X C W a m1) (hb : XW X C W (.BoolOp .Or (b :: rest) pos) m2) : XW X C W (.BoolOp .Or (a :: b :: rest) pos) (eOr m1 m2) := by
  obtain ⟨ta, a1, a2⟩ := ha.ex
  obtain ⟨tb, b1, b2⟩ := hb.ex
  exact ⟨_, pw_or a1 b1, den_or a2 b2⟩
theorem XW.t (ha : XW X C W a m1) : XT X C W a m1 := by
  obtain ⟨ta, a1, a2⟩ := ha.ex
  exact ⟨_, a1.pt, a2⟩
end
/-- no computation: such a value is not meant here -/
def eStuck {α : Type} : E α := fun _ _ _ _ => False
/-- and, or as values: bools ahead, the last one any value -/
def fAndV (m2 : E D) : D → E D
  | .bl t => if t = true then m2 else ep (.bl false)
  | _ => eStuck
def fOrV (m2 : E D) : D → E D
  | .bl t => if t = true then ep (.bl true) else m2
  | _ => eStuck
def eAndV (m1 m2 : E D) : E D := eb m1 (fAndV m2)
def eOrV (m1 m2 : E D) : E D := eb m1 (fOrV m2)
theorem den_andV {t u : TE} {m1 m2 : E D} (h1 : Den C W t m1 (kR C)) (h2 : Den C W u m2 (kR C)) : Den C W (tAndV t u) (eAndV m1 m2) (kR C) := by
  refine Den.bind (u := fun (x : V) σ H (Q : VK) => ∃ c, x = .bl c ∧ if c = true then u σ H Q else Q (.bl false) H) (f := fAndV m2) back_R h1 ?_
  intro H0 σ ρ F H z d x Qd Xd Q S ra hm hq hx
  cases d with
  | bl t =>
    cases ra
    refine ⟨t, rfl, ?_⟩
    cases t with
    | true => exact h2 σ ρ F H z Qd Xd Q S hm hq hx
    | false => exact S.same (R := kR C) hm (.bl _) hq
  | _ => exact False.elim hm
theorem den_orV {t u : TE} {m1 m2 : E D} (h1 : Den C W t m1 (kR C)) (h2 : Den C W u m2 (kR C)) : Den C W (tOrV t u) (eOrV m1 m2) (kR C) := by
  refine Den.bind (u := fun (x : V) σ H (Q : VK) => ∃ c, x = .bl c ∧ if c = true then Q (.bl true) H else u σ H Q) (f := fOrV m2) back_R h1 ?_
  intro H0 σ ρ F H z d x Qd Xd Q S ra hm hq hx
  cases d with
  | bl t =>
    cases ra
    refine ⟨t, rfl, ?_⟩
    cases t with
    | false => exact h2 σ ρ F H z Qd Xd Q S hm hq hx
    | true => exact S.same (R := kR C) hm (.bl _) hq
  | _ => exact False.elim hm
section
variable {rest : List Expr} {m1 m2 : E D} {op : BoolOp}
theorem xe_one (ha : XE X C W a m1) : XE X C W (.BoolOp op [a] pos) m1 := by
  obtain ⟨ta, a1, a2⟩ := ha.ex
  exact ⟨_, pe_one a1, a2⟩
theorem xe_and (ha : XE X C W a m1) (hb : XE X C W (.BoolOp .And (b :: rest) pos) m2) : XE X C W (.BoolOp .And (a :: b :: rest) pos) (eAndV m1 m2) := by
  obtain ⟨ta, a1, a2⟩ := ha.ex
  obtain ⟨tb, b1, b2⟩ := hb.ex
  exact ⟨_, pe_and a1 b1, den_andV a2 b2⟩
theorem xe_or (ha : XE X C W a m1) (hb : XE X C W (.BoolOp .Or (b :: rest) pos) m2) : XE X C W (.BoolOp .Or (a :: b :: rest) pos) (eOrV m1 m2) := by
  obtain ⟨ta, a1, a2⟩ := ha.ex
  obtain ⟨tb, b1, b2⟩ := hb.ex
  exact ⟨_, pe_or a1 b1, den_orV a2 b2⟩
end
end
end DL

namespace DL
open PySem PySem.Spec PyProof.Rows L2

/-! ## statements -/
inductive Fl where
  | nx | ret (d : D) | retO (ds : List D) | bk | ct
/-- what is wanted of a statement's end -/
def EndOk (C : CC) (Dn : Ends) (H0 : Hp) (fl : Fl) (ρ : Rho) (z : Zs) (F H : Hp) : Prop := match fl with
  | .nx => ∀ σ, StOk C σ ρ F H z → Dn.nx σ H
  | .bk => ∀ σ, StOk C σ ρ F H z → Dn.bk σ H
  | .ct => ∀ σ, StOk C σ ρ F H z → Dn.ct σ H
  | .ret d => ∀ σ v, StOk C σ ρ F H z → C.R F v d → Dn.rt v H
  | .retO ds => ∀ σ v, StOk C σ ρ F H z → (∃ a xs, v = .ref a ∧ H a = some (.lst xs) ∧ F a = none ∧ C.H0 a = none ∧ some a ≠ C.pa ∧ C.RL F xs ds ∧ a ∉ C.hid) → Dn.rt v H
def DenS (C : CC) (W : WX) (t : TS) (s : E Fl) : Prop :=
  ∀ (σ : L2.St) (ρ : Rho) (F H : Hp) (z : Zs) (Qd : Fl → Rho → Zs → Prop) (Xd : Er → Rho → Zs → Prop) (Dn : Ends), StOk C σ ρ F H z → s ρ Qd Xd z →
    (∀ fl ρ' z' F' H', Qd fl ρ' z' → Same F F' → EndOk C Dn H fl ρ' z' F' H') →
    (∀ e ρ' z' cls dd σ' F' H', Xd e ρ' z' → StOk C σ' ρ' F' H' z' → Same F F' → ExR C F' H' e cls dd → W cls dd σ' H') → t Dn σ H
structure XS (X : Cx) (C : CC) (W : WX) (st : Stmt) (s : E Fl) : Prop where
  ex : ∃ t, PS X st t ∧ DenS C W t s
structure XSs (X : Cx) (C : CC) (W : WX) (st : List Stmt) (s : E Fl) : Prop where
  ex : ∃ t, PSs X st t ∧ DenS C W t s

def fSeq (s2 : E Fl) : Fl → E Fl
  | .nx => s2
  | fl => ep fl
def sSeq (s1 s2 : E Fl) : E Fl := eb s1 (fSeq s2)
section
variable {X : Cx} {C : CC} {W : WX} {e a b c : Expr} {es : List Expr} {m ma mb mc : E D} {pos : Pos} {k : Nat} {st : Stmt} {rest body : List Stmt} {s s1 s2 : E Fl}
theorem den_seq {t u : TS} (h1 : DenS C W t s1) (h2 : DenS C W u s2) : DenS C W (tSeq t u) (sSeq s1 s2) := fun σ ρ F H z Qd Xd Dn S hm hq hx => by
  refine h1 σ ρ F H z _ Xd { Dn with nx := u Dn } S hm (fun fl ρ1 z1 F1 H1 q1 ff1 => ?_) hx
  cases fl with
  | nx =>
    intro σ1 S1
    exact h2 σ1 ρ1 F1 H1 z1 Qd Xd Dn S1 q1 (fun fl ρ' z' F' H' q ff => hq fl ρ' z' F' H' q (ff1.trans ff)) fun e ρ' z' cls dd σ' F' H' q S' ff r => hx e ρ' z' cls dd σ' F' H' q S' (ff1.trans ff) r
  | ret d => exact hq _ _ _ _ _ q1 ff1
  | retO d => exact hq _ _ _ _ _ q1 ff1
  | bk => exact hq _ _ _ _ _ q1 ff1
  | ct => exact hq _ _ _ _ _ q1 ff1
theorem xss_nil : XSs X C W [] (ep .nx) := ⟨tNext, pss_nil, fun σ ρ F H z Qd Xd Dn S hm hq hx => hq _ _ _ _ _ hm (Same.refl F) σ S⟩
theorem xss_one (h : XS X C W st s) : XSs X C W [st] s := by
  obtain ⟨t, h1, h2⟩ := h.ex
  exact ⟨t, pss_one h1, h2⟩
theorem xss_cons (h : XS X C W st s1) (hs : XSs X C W rest s2) : XSs X C W (st :: rest) (sSeq s1 s2) := by
  obtain ⟨t, h1, h2⟩ := h.ex
  obtain ⟨u, g1, g2⟩ := hs.ex
  exact ⟨_, pss_cons h1 g1, den_seq h2 g2⟩
theorem xs_pass : XS X C W (.Pass pos) (ep .nx) := ⟨tNext, ps_pass, fun σ ρ F H z Qd Xd Dn S hm hq hx => hq _ _ _ _ _ hm (Same.refl F) σ S⟩
theorem xs_break : XS X C W (.Break pos) (ep .bk) := ⟨tBreak, ps_break, fun σ ρ F H z Qd Xd Dn S hm hq hx => hq _ _ _ _ _ hm (Same.refl F) σ S⟩
theorem xs_continue : XS X C W (.Continue pos) (ep .ct) := ⟨tCont, ps_continue, fun σ ρ F H z Qd Xd Dn S hm hq hx => hq _ _ _ _ _ hm (Same.refl F) σ S⟩
theorem xs_doc {x j pos'} : XS X C W (.Expr (.Constant (.str x) j pos) pos') (ep .nx) := ⟨tNext, ps_doc, fun σ ρ F H z Qd Xd Dn S hm hq hx => hq _ _ _ _ _ hm (Same.refl F) σ S⟩
def sIf (mt : E Bool) (s1 s2 : E Fl) : E Fl := eb mt fun t => if t = true then s1 else s2
theorem xs_if {mt : E Bool} {l1 l2 : List Stmt} {c : Expr} (hc : XT X C W c mt) (h1 : XSs X C W l1 s1) (h2 : XSs X C W l2 s2) : XS X C W (.If c l1 l2 pos) (sIf mt s1 s2) := by
  obtain ⟨tc, c1, c2⟩ := hc.ex
  obtain ⟨t, g1, g2⟩ := h1.ex
  obtain ⟨u, k1, k2⟩ := h2.ex
  refine ⟨_, ps_if c1 g1 k1, fun σ ρ F H z Qd Xd Dn S hm hq hx => ?_⟩
  refine c2 σ ρ F H z _ Xd (fun b H1 => if b = true then t Dn σ H1 else u Dn σ H1) S hm (fun bb ρ1 z1 b F1 H1 q1 S1 ff1 k1 o1 r1 => ?_) (fun e ρ' z' cls dd F' H' q S' ff r => hx e ρ' z' cls dd σ F' H' q S' ff r)
  have eb' : b = bb := r1
  rw [eb']
  cases bb with
  | true => exact g2 σ ρ1 F1 H1 z1 Qd Xd Dn S1 q1 (fun fl ρ' z' F' H' q ff => hq fl ρ' z' F' H' q (ff1.trans ff)) fun e ρ' z' cls dd σ' F' H' q S' ff r => hx e ρ' z' cls dd σ' F' H' q S' (ff1.trans ff) r
  | false => exact k2 σ ρ1 F1 H1 z1 Qd Xd Dn S1 q1 (fun fl ρ' z' F' H' q ff => hq fl ρ' z' F' H' q (ff1.trans ff)) fun e ρ' z' cls dd σ' F' H' q S' ff r => hx e ρ' z' cls dd σ' F' H' q S' (ff1.trans ff) r
def sRet (m : E D) : E Fl := eb m fun d => ep (.ret d)
def sRetO (m : E (List D)) : E Fl := eb m fun d => ep (.retO d)
theorem xs_ret (h : XE X C W e m) : XS X C W (.Return (some e) pos) (sRet m) := by
  obtain ⟨t, h1, h2⟩ := h.ex
  refine ⟨_, ps_ret h1, fun σ ρ F H z Qd Xd Dn S hm hq hx => ?_⟩
  exact h2 σ ρ F H z _ Xd Dn.rt S hm (fun d ρ1 z1 v F1 H1 q1 S1 ff1 k1 o1 r1 => hq _ _ _ _ _ q1 ff1 σ v S1 r1) (fun e ρ' z' cls dd F' H' q S' ff r => hx e ρ' z' cls dd σ F' H' q S' ff r)
theorem xs_retO {m : E (List D)} (h : XO X C W e m) : XS X C W (.Return (some e) pos) (sRetO m) := by
  obtain ⟨t, h1, h2⟩ := h.ex
  refine ⟨_, ps_ret h1, fun σ ρ F H z Qd Xd Dn S hm hq hx => ?_⟩
  exact h2 σ ρ F H z _ Xd Dn.rt S hm (fun d ρ1 z1 v F1 H1 q1 S1 ff1 k1 o1 ⟨p, xs, e1, e2, e3, e4, e5, e6⟩ => hq _ _ _ _ _ q1 ff1 σ v S1 ⟨p, xs, e1, e2, e3, S.h0None e4 e5, e5, e6, S.notHid e4⟩) (fun e ρ' z' cls dd F' H' q S' ff r => hx e ρ' z' cls dd σ F' H' q S' ff r)
/-- return of a name that owns its list -/
def sRetV (i : Nat) : E Fl := fun ρ Q _ z => match ρ[i]? with
  | some (.own ds) => Q (.retO ds) ρ z
  | _ => False
theorem xs_retV (i : Nat) {x : Str} {p : Pos} (h : PE X (.Name x p) (tVar i)) : XS X C W (.Return (some (.Name x p)) pos) (sRetV i) := by
  refine ⟨_, ps_ret h, fun σ ρ F H z Qd Xd Dn S hm hq hx => ?_⟩
  unfold sRetV at hm
  cases e : ρ[i]? with
  | none => rw [e] at hm; exact hm.elim
  | some s =>
    rw [e] at hm
    obtain ⟨v, e1, r⟩ := st_get S e
    cases s with
    | no => exact hm.elim
    | fr d => exact hm.elim
    | own ds =>
      cases v with
      | none => exact r.elim
      | some v => exact ⟨v, e1, hq _ _ _ _ _ hm (Same.refl F) σ v S r⟩
theorem xs_retN : XS X C W (.Return none pos) (ep (.ret .non)) := ⟨_, ps_retN, fun σ ρ F H z Qd Xd Dn S hm hq hx => hq _ _ _ _ _ hm (Same.refl F) σ _ S .non⟩
def sExpr (m : E D) : E Fl := eb m fun _ => ep .nx
theorem xs_expr (h : XP X C W e m) (hs : swapsWith e none pos.line X.env = pure false := by rfl) : XS X C W (.Expr e pos) (sExpr m) := by
  obtain ⟨t, h1, h2⟩ := h.ex
  refine ⟨_, ps_expr h1 hs, fun σ ρ F H z Qd Xd Dn S hm hq hx => ?_⟩
  exact h2 σ ρ F H z _ Xd (fun _ H1 => Dn.nx σ H1) S hm (fun d ρ1 z1 v F1 H1 q1 S1 ff1 k1 o1 r1 => hq _ _ _ _ _ q1 ff1 σ S1) (fun e ρ' z' cls dd F' H' q S' ff r => hx e ρ' z' cls dd σ F' H' q S' ff r)

/-! ### stores into names -/
theorem get_set {α : Type} {l : List α} {i j : Nat} {x y : α} (h : (l.set i x)[j]? = some y) : (j = i ∧ y = x ∧ i < l.length) ∨ (j ≠ i ∧ l[j]? = some y) := by
  by_cases hj : j = i
  · subst hj
    by_cases hl : j < l.length
    · rw [List.getElem?_set_self hl] at h
      exact .inl ⟨rfl, (Option.some.inj h).symm, hl⟩
    · rw [List.getElem?_eq_none (by rw [List.length_set]; omega)] at h; cases h
  · rw [List.getElem?_set_ne (Ne.symm hj)] at h
    exact .inr ⟨hj, h⟩
theorem StOk.setF {σ : L2.St} {ρ : Rho} {F H : Hp} {z : Zs} (S : StOk C σ ρ F H z) (i : Nat) {v : V} {d : D} (r : C.R F v d) : StOk C (σ.set i (some v)) (ρ.set i (.fr d)) F H z := by
  refine ⟨S.sub, S.f0, S.h0, S.nw, by rw [List.length_set, List.length_set]; exact S.len, fun j w s e1 e2 => ?_, fun j l x y b e1 e2 e3 e4 => ?_, S.pz, S.hd, S.cs⟩
  · rcases get_set e1 with ⟨h1, h2, _⟩ | ⟨h1, h2⟩
    · rcases get_set e2 with ⟨g1, g2, _⟩ | ⟨g1, g2⟩
      · subst h2 g2; exact r
      · exact absurd h1 g1
    · rcases get_set e2 with ⟨g1, g2, _⟩ | ⟨g1, g2⟩
      · exact absurd g1 h1
      · exact S.env j w s h2 g2
  · rcases get_set e1 with ⟨_, h2, _⟩ | ⟨h1, h2⟩
    · cases h2
    · rcases get_set e2 with ⟨_, g2, _⟩ | ⟨g1, g2⟩
      · cases g2
      · rcases get_set e3 with ⟨k1, _⟩ | ⟨_, k2⟩
        · exact absurd k1 h1
        · rcases get_set e4 with ⟨k1, _⟩ | ⟨_, k3⟩
          · exact absurd k1 g1
          · exact S.apart j l x y b h2 g2 k2 k3
theorem StOk.setO {σ : L2.St} {ρ : Rho} {F H : Hp} {z : Zs} (S : StOk C σ ρ F H z) (i : Nat) {a : Addr} {xs : List V} {ds : List D} (ha : H a = some (.lst xs)) (hf : F a = none) (h0 : C.H0 a = none) (np : some a ≠ C.pa) (r : C.RL F xs ds)
    (no : ∀ (j : Nat) ys, ρ[j]? = some (.own ys) → σ[j]? ≠ some (some (.ref a))) (nh : a ∉ C.hid) : StOk C (σ.set i (some (.ref a))) (ρ.set i (.own ds)) F H z := by
  refine ⟨S.sub, S.f0, S.h0, S.nw, by rw [List.length_set, List.length_set]; exact S.len, fun j w s e1 e2 => ?_, fun j l x y b e1 e2 e3 e4 => ?_, S.pz, S.hd, S.cs⟩
  · rcases get_set e1 with ⟨h1, h2, _⟩ | ⟨h1, h2⟩
    · rcases get_set e2 with ⟨g1, g2, _⟩ | ⟨g1, g2⟩
      · subst h2 g2; exact ⟨a, xs, rfl, ha, hf, h0, np, r, nh⟩
      · exact absurd h1 g1
    · rcases get_set e2 with ⟨g1, g2, _⟩ | ⟨g1, g2⟩
      · exact absurd g1 h1
      · exact S.env j w s h2 g2
  · rcases get_set e1 with ⟨h1, h2, _⟩ | ⟨h1, h2⟩
    · rcases get_set e2 with ⟨g1, g2, _⟩ | ⟨g1, g2⟩
      · rw [h1, g1]
      · rcases get_set e3 with ⟨_, k2, _⟩ | ⟨k1, _⟩
        · rcases get_set e4 with ⟨k3, _⟩ | ⟨_, k4⟩
          · exact absurd k3 g1
          · cases k2
            exact absurd k4 (no l y g2)
        · exact absurd h1 k1
    · rcases get_set e2 with ⟨g1, g2, _⟩ | ⟨g1, g2⟩
      · rcases get_set e4 with ⟨_, k2, _⟩ | ⟨k1, _⟩
        · rcases get_set e3 with ⟨k3, _⟩ | ⟨_, k4⟩
          · exact absurd k3 h1
          · cases k2
            exact absurd k4 (no j x h2)
        · exact absurd g1 k1
      · rcases get_set e3 with ⟨k1, _⟩ | ⟨_, k2⟩
        · exact absurd k1 h1
        · rcases get_set e4 with ⟨k1, _⟩ | ⟨_, k3⟩
          · exact absurd k1 g1
          · exact S.apart j l x y b h2 g2 k2 k3
/-- a target: what storing a value makes of the slots -/
abbrev Tg := D → Rho → (Rho → Prop) → Prop
/-- the target's reading g does what tg says; it stores at none but the slots is -/
def DenG (C : CC) (g : TG) (is : List Nat) (tg : Tg) : Prop := ∀ (σ : L2.St) (ρ : Rho) (F H : Hp) (z : Zs) (v : V) (d : D) (Qd : Rho → Prop) (Q : L2.St → Hp → Prop), StOk C σ ρ F H z → C.R F v d → tg d ρ Qd →
  (∀ σ' ρ', Qd ρ' → StOk C σ' ρ' F H z → (∀ j, j ∉ is → σ'[j]? = σ[j]?) ∧ σ'.length = σ.length → Ole ρ' ρ → Q σ' H) → g v σ H Q
structure XG (X : Cx) (C : CC) (t : Expr) (is : List Nat) (tg : Tg) : Prop where
  ex : ∃ g, PG X t g ∧ DenG C g is tg
abbrev Tgs := List D → Rho → (Rho → Prop) → Prop
def DenGs (C : CC) (g : TGs) (is : List Nat) (tg : Tgs) : Prop := ∀ (σ : L2.St) (ρ : Rho) (F H : Hp) (z : Zs) (vs : List V) (ds : List D) (Qd : Rho → Prop) (Q : L2.St → Hp → Prop), StOk C σ ρ F H z → C.RL F vs ds → tg ds ρ Qd →
  (∀ σ' ρ', Qd ρ' → StOk C σ' ρ' F H z → (∀ j, j ∉ is → σ'[j]? = σ[j]?) ∧ σ'.length = σ.length → Ole ρ' ρ → Q σ' H) → g vs σ H Q
structure XGs (X : Cx) (C : CC) (ts : List Expr) (is : List Nat) (tg : Tgs) : Prop where
  ex : ∃ g, PGs X ts g ∧ DenGs C g is tg
def gN (i : Nat) : Tg := fun d ρ Q => Q (ρ.set i (.fr d))
def gNl : Tgs := fun ds ρ Q => ds = [] ∧ Q ρ
def gCn (t : Tg) (u : Tgs) : Tgs := fun ds ρ Q => match ds with
  | d :: r => t d ρ fun ρ' => u r ρ' Q
  | [] => False
def gTp (n : Nat) (u : Tgs) : Tg := fun d ρ Q => match d with
  | .tup ds => ds.length = n ∧ u ds ρ Q
  | .lst ds => ds.length = n ∧ u ds ρ Q
  | _ => False
/-- (a, b, ..) = a tuple or a list of that length -/
def gSq (K : PySem.W.Frag) (n : Nat) (t : TGs) : TG := fun v σ H Q => ∃ a xs, v = .ref a ∧ (SqT K H a xs ∨ SqL K H a xs) ∧ xs.length = n ∧ t xs σ H Q
theorem pg_sq {es : List Expr} {k : Nat} {t : TGs} {n : Nat} (hc : X.calm = true) (h : PGs X es t)
    (hn : (assignEach es X.env).length = n := by rfl) (hst : (assignEach es X.env).findIdx? (·.1) = none := by rfl) : PG X (.Tuple es k pos) (gSq X.K n t) := by
  refine ⟨fun pins s σ H v u Q I r hw => ?_⟩
  obtain ⟨a, xs, e1, hq, hl, hw⟩ := hw
  rcases hq with hq | hq
  · exact (pg_tup hc h hn hst).run pins s σ H v u Q I r ⟨a, xs, e1, hq, hl, hw⟩
  subst e1
  cases r
  obtain ⟨its, rv, ⟨o, m, e, c, _, d⟩, hz⟩ := I.list hq
  have ht : s.heap.IsList a its.toArray := ⟨o, e, c, m, d⟩
  rw [assign_Tuple]
  refine wpAny_bind (wpAny_standAt ?_)
  unfold unpack
  rw [show (assignEach es X.env).length = its.toArray.size by simp [hn, ← hl, rv.length], hst]
  refine wpAny_bind (wpAny_holding (PySem.W.kun_itemsOf (I.ok.hd hc) ht fun h' hx => ?_))
  have I1 : Inv X pins σ H { s with heap := h' } := I.kept (t' := s.toks) fun b o e => hx b o (Nat.ne_of_lt (Heap.lt_size e)) e
  exact h.run pins _ σ H xs _ Q I1 (by simpa using rv) hw
theorem den_gN (i : Nat) : DenG C (gName i) [i] (gN i) := fun σ ρ F H z v d Qd Q S r hm hq => hq _ _ hm (S.setF i r) ⟨fun j hj => List.getElem?_set_ne (fun e => hj (by rw [e]; exact List.mem_cons_self)), List.length_set⟩ ole_set
theorem xg_name (i : Nat) {x : Str} (h : PG X (.Name x pos) (gName i)) : XG X C (.Name x pos) [i] (gN i) := ⟨_, h, den_gN i⟩
theorem xgs_nil : XGs X C [] [] gNl := ⟨_, pgs_nil, fun σ ρ F H z vs ds Qd Q S r hm hq => by
  obtain ⟨e, hm⟩ := hm
  subst e
  cases r
  exact ⟨rfl, hq _ _ hm S ⟨fun j _ => rfl, rfl⟩ Ole.refl⟩⟩
theorem xgs_cons {t : Expr} {ts : List Expr} {i1 i2 : List Nat} {g : Tg} {gs : Tgs} (h : XG X C t i1 g) (hs : XGs X C ts i2 gs) (hp : (assignEach (t :: ts) X.env).map (·.2) = assign t X.env :: (assignEach ts X.env).map (·.2) := by rfl) : XGs X C (t :: ts) (i1 ++ i2) (gCn g gs) := by
  obtain ⟨g1, h1, h2⟩ := h.ex
  obtain ⟨g2, k1, k2⟩ := hs.ex
  refine ⟨_, pgs_cons h1 k1 hp, fun σ ρ F H z vs ds Qd Q S r hm hq => ?_⟩
  cases r with
  | nil => exact hm.elim
  | cons a b => exact ⟨_, _, rfl, h2 σ ρ F H z _ _ _ _ S a hm fun σ1 ρ1 q1 S1 u1 o1 => k2 σ1 ρ1 F H z _ _ Qd Q S1 b q1 fun σ' ρ' q' S' u2 o2 =>
      hq σ' ρ' q' S' ⟨fun j hj => (u2.1 j fun m => hj (List.mem_append_right _ m)).trans (u1.1 j fun m => hj (List.mem_append_left _ m)), u2.2.trans u1.2⟩ (o2.trans o1)⟩
theorem xg_tup {ts : List Expr} {gs : Tgs} {is : List Nat} {kk n : Nat} (hk : X.K = C.K) (hc : X.calm = true) (hs : XGs X C ts is gs) (hn : (assignEach ts X.env).length = n := by rfl) (hst : (assignEach ts X.env).findIdx? (·.1) = none := by rfl) : XG X C (.Tuple ts kk pos) is (gTp n gs) := by
  obtain ⟨g2, k1, k2⟩ := hs.ex
  refine ⟨_, pg_sq hc k1 hn hst, fun σ ρ F H z v d Qd Q S r hm hq => ?_⟩
  cases d with
  | tup ds =>
    cases r with
    | tup q rr =>
      refine ⟨_, _, rfl, .inl ?_, by rw [RpL.length rr]; exact hm.1, k2 σ ρ F H z _ _ Qd Q S rr hm.2 hq⟩
      rw [hk]
      exact sqtSub S.sub q
  | lst ds =>
    cases r with
    | lst nn q rr =>
      exact ⟨_, _, rfl, .inr (.inl (.inl (S.sub _ _ q ngL))), by rw [RpL.length rr]; exact hm.1, k2 σ ρ F H z _ _ Qd Q S rr hm.2 hq⟩
  | _ => exact False.elim hm
/-- target = e -/
def sAsg (m : E D) (tg : Tg) : E Fl := eb m fun d ρ Q _ z => tg d ρ fun ρ' => Q .nx ρ' z
theorem den_asg {t : TE} {g : TG} {tg : Tg} {is : List Nat} (h : Den C W t m (kR C)) (hg : DenG C g is tg) : DenS C W (tAsg t g) (sAsg m tg) := fun σ ρ F H z Qd Xd Dn S hm hq hx =>
  h σ ρ F H z _ Xd (fun x H1 => g x σ H1 Dn.nx) S hm (fun d ρ1 z1 v F1 H1 q1 S1 ff1 k1 o1 r1 => hg σ ρ1 F1 H1 z1 v d _ Dn.nx S1 r1 q1 fun σ' ρ' q' S' _ _ => hq _ _ _ _ _ q' ff1 σ' S') (fun e ρ' z' cls dd F' H' q S' ff r => hx e ρ' z' cls dd σ F' H' q S' ff r)
theorem xs_asg {tgt : Expr} {tg : Tg} {is : List Nat} (h : XE X C W e m) (hg : XG X C tgt is tg) (hs : swapsWithSole [tgt] e pos.line X.env = pure false := by rfl) (hw : swappedStores [tgt] e X.env = pure none := by rfl)
    (h1 : (assignEach [tgt] X.env).map (·.2) = [assign tgt X.env] := by rfl) : XS X C W (.Assign [tgt] e pos) (sAsg m tg) := by
  obtain ⟨t, a1, a2⟩ := h.ex
  obtain ⟨g, g1, g2⟩ := hg.ex
  exact ⟨_, ps_asg a1 g1 hs hw h1, den_asg a2 g2⟩
theorem xs_set (i : Nat) {x : Str} {pos' : Pos} (h : XE X C W e m) (hN : X.N.Nodup) (hi : X.N[i]? = some x) (hx : Loc X.env.scope x) (hs : swapsWith e (some (.Name x pos')) pos.line X.env = pure false := by rfl)
    (hf : X.fn x = true ∨ X.env.scope.names.lookup x = some .local := by first | exact .inl rfl | exact .inr rfl | assumption) : XS X C W (.Assign [.Name x pos'] e pos) (sAsg m (gN i)) := by
  obtain ⟨t, a1, a2⟩ := h.ex
  exact ⟨_, ps_set hN hi hx a1 hs hf, den_asg (g := gName i) a2 (den_gN i)⟩
/-- name = a new list that the name owns -/
def sAsgO (m : E (List D)) (i : Nat) : E Fl := eb m fun ds ρ Q _ z => Q .nx (ρ.set i (.own ds)) z
theorem xs_setO (i : Nat) {x : Str} {pos' : Pos} {m : E (List D)} (h : XO X C W e m) (hN : X.N.Nodup) (hi : X.N[i]? = some x) (hx : Loc X.env.scope x) (hs : swapsWith e (some (.Name x pos')) pos.line X.env = pure false := by rfl)
    (hf : X.fn x = true ∨ X.env.scope.names.lookup x = some .local := by first | exact .inl rfl | exact .inr rfl | assumption) : XS X C W (.Assign [.Name x pos'] e pos) (sAsgO m i) := by
  obtain ⟨t, a1, a2⟩ := h.ex
  refine ⟨_, ps_set hN hi hx a1 hs hf, fun σ ρ F H z Qd Xd Dn S hm hq hx => ?_⟩
  refine a2 σ ρ F H z _ Xd (fun x H1 => gName i x σ H1 Dn.nx) S hm (fun d ρ1 z1 v F1 H1 q1 S1 ff1 k1 o1 ⟨p, xs, e1, e2, e3, e4, e5, e6⟩ => ?_) (fun e ρ' z' cls dd F' H' q S' ff r => hx e ρ' z' cls dd σ F' H' q S' ff r)
  subst e1
  exact hq _ _ _ _ _ q1 ff1 _ (S1.setO i e2 e3 (S.h0None e4 e5) e5 e6 (S.notOwn e4 o1) (S.notHid e4))
/-- a, b = x, y -/
def sPar (i j : Nat) (ms : E (List D)) : E Fl := eb ms fun ds ρ Q _ z => match ds with
  | [d1, d2] => Q .nx ((ρ.set i (.fr d1)).set j (.fr d2)) z
  | _ => False
theorem xs_par (i j : Nat) {x y : Str} {px py pt : Pos} {kt k2 pt2} {ms : E (List D)} (hc : X.calm = true) (hN : X.N.Nodup) (hi : X.N[i]? = some x) (hj : X.N[j]? = some y) (hij : i ≠ j)
    (hx : X.env.scope.names.lookup x = some .local) (hy : X.env.scope.names.lookup y = some .local) (ha : XA X C W [a, b] ms)
    (hw : swappedStores [.Tuple [.Name x px, .Name y py] kt pt] (.Tuple [a, b] k2 pt2) X.env = pure (some [x, y]))
    (hs : swapsWithSole [.Tuple [.Name x px, .Name y py] kt pt] (.Tuple [a, b] k2 pt2) pos.line X.env = pure false := by rfl) :
    XS X C W (.Assign [.Tuple [.Name x px, .Name y py] kt pt] (.Tuple [a, b] k2 pt2) pos) (sPar i j ms) := by
  obtain ⟨t, a1, a2⟩ := ha.ex
  refine ⟨_, ps_par hc hN hi hj hij hx hy a1 hw hs, fun σ ρ F H z Qd Xd Dn S hm hq hx => ?_⟩
  refine a2 σ ρ F H z _ Xd (fun vs H1 => ∃ v w, vs = [v, w] ∧ Dn.nx ((σ.set i (some v)).set j (some w)) H1) S hm (fun ds ρ1 z1 vs F1 H1 q1 S1 ff1 k1 o1 r1 => ?_) (fun e ρ' z' cls dd F' H' q S' ff r => hx e ρ' z' cls dd σ F' H' q S' ff r)
  cases r1 with
  | nil => exact False.elim q1
  | cons r1 rr =>
    cases rr with
    | nil => exact False.elim q1
    | cons r2 rr =>
      cases rr with
      | nil => exact ⟨_, _, rfl, hq _ _ _ _ _ q1 ff1 _ ((S1.setF i r1).setF j r2)⟩
      | cons _ _ => exact False.elim q1
end
end DL

namespace DL
open PySem PySem.Spec PyProof.Rows L2

/-! ## defs: as the layer's FnOk, where no repr is under way -/
structure FnG (P : Program) (w : World) (K : PySem.W.Frag) (mg : Str → Option Value) (base : Heap) (k : Nat) (f : Addr) (fd : FuncData) (ps : List Str) (sp : Sp) : Prop where
  len : ∀ vs H Q E, sp vs H Q E → vs.length = ps.length
  run : ∀ (A : Around) (outer : List PySem.Env) (s : Shared) (H : Hp) (args : Args) (us : List Value) (vs : List V) (Q : VK) (E : XK), A.guards = some [] → Room k A → Env0 P w K mg base A outer s H →
    BindsTo s fd args (ps.zip us) → Vals vs us → sp vs H Q E → codeAny (model P w) A (.call (.ref f) args) (CR (L2.CX P w) outer P w H s Q E) s
section
variable {P : Program} {w : World} {K : PySem.W.Frag} {mg : Str → Option Value} {base : Heap}
theorem FnG.mono {j k : Nat} {f : Addr} {fd : FuncData} {ps : List Str} {sp : Sp} (F : FnG P w K mg base j f fd ps sp) (h : j ≤ k) : FnG P w K mg base k f fd ps sp :=
  ⟨F.len, fun A outer s H args us vs Q E hg hr => F.run A outer s H args us vs Q E hg (hr.mono h)⟩
/-- the rule for a def, by its body's reading -/
theorem fnG_of {k : Nat} {f : Addr} {x qual : Str} {params : Arguments} {body : List Stmt} {scope : Scope} {dvs : List V} {kws : List (Str × V)} {fd : FuncData} {N ps : List Str} {sp : Sp}
    (F : FunD K x qual params body scope dvs kws f fd) (S : FnScope N ps scope) (len : ∀ vs H Q E, sp vs H Q E → vs.length = ps.length)
    (hbody : ∀ (cdv : Value) (A : Around) (outer : List PySem.Env) (s : Shared) (H : Hp) (vs : List V) (Q : VK) (E : XK), A.guards = some [] → Room k (A.deeper (envOfC qual scope s.heap.objs.size f cdv)) → sp vs H Q E →
      ∃ t, PSs (cxOf (L2.CX P w) P w K mg base N qual scope f cdv A outer s H E) body t ∧ t { nx := fun _ H' => Q .non H', rt := Q } (L2.start N vs) H) : FnG P w K mg base (k + 1) f fd ps sp := by
  obtain ⟨oc, od, dV, kV, doc, pm, an, cdv, ct, osl, rfl, lk, hcd, _, _⟩ := F.ex
  refine ⟨len, ?_⟩
  intro A outer s H args us vs Q E hg hr e0 hb r hsp
  have hl := len _ _ _ _ hsp
  have KX : K.In s.heap := e0.mod.kin.keeps fun b o q => (e0.bs b o q).1
  have lim : s.heap.NoLimit := e0.mod.nolimit.keeps fun b o q => (e0.bs b o q).1
  refine codeAny_call_function hr.depth (KX _ _ lk) rfl S.co S.gen rfl (PySem.W.codeRec_of KX hcd) (hb _ _ _ _ ?_)
  refine wpAny_newFunctionEnv_cells S.kind (fun y hy => ?_) fun env he s1 x => ?_
  · rcases S.par y.1 (List.of_mem_zip hy).1 with q | q
    · exact Or.inl q
    · exact Or.inr ⟨q, PySem.W.cellsFrom_some _ _ _ (Or.inl q)⟩
  · subst he
    refine ⟨lim.keeps x.toInCall.keep, codeAny_func ?_⟩
    obtain ⟨t, ht, hq⟩ := hbody cdv A outer s H vs Q E hg (hr.deeper _) hsp
    refine wpAny_mono (ht.run [] s1 (L2.start N vs) H _ (inv_start S hr.hd e0 hl r x) hq) ?_ (fun e s' hs => hs)
    intro fl s' hs
    cases fl with
    | ret u =>
      obtain ⟨v, σ', H', J, rv, q⟩ := hs
      exact ⟨v, H', J.os, J.bare, J.base, J.hok, rv, q⟩
    | next =>
      obtain ⟨σ', H', J, q⟩ := hs
      exact ⟨V.non, H', J.os, J.bare, J.base, J.hok, rfl, q⟩
    | brk =>
      obtain ⟨_, _, _, q⟩ := hs
      exact q.elim
    | cont =>
      obtain ⟨_, _, _, q⟩ := hs
      exact q.elim
end

/-- how the heap lies behind a call -/
def PC (K : PySem.W.Frag) (mg : Str → Option Value) (pa : Option Addr) (F H : Hp) (z : Zs) : Prop := PzOk pa F H z ∧ CsOk K mg pa F H z.cs
def Aft (K : PySem.W.Frag) (mg : Str → Option Value) (pa : Option Addr) (F H F' H' : Hp) (z' : Zs) : Prop := Same F F' ∧ Sub F' H' ∧ Keep pa F F' H H' ∧ (∀ b, F' b ≠ none → F b = none → H b = none) ∧ PC K mg pa F' H' z'
/-- what a def on data promises: its answer frozen; a new list of the caller's own -/
def spF (K : PySem.W.Frag) (mg : Str → Option Value) (n : Nat) (m : List D → E0 D) : Sp := fun vs H Q E => vs.length = n ∧ ∃ (pa : Option Addr) (F : Hp) (z : Zs) (ds : List D) (Qd : D → Zs → Prop) (Xd : Er → Zs → Prop),
  Sub F H ∧ PC K mg pa F H z ∧ RpL K mg pa F vs ds ∧ m ds Qd Xd z ∧ (∀ d z' v F' H', Qd d z' → Aft K mg pa F H F' H' z' → Rp K mg pa F' v d → Q v H') ∧
  (∀ e z' cls dd F' H', Xd e z' → Aft K mg pa F H F' H' z' → ExR ⟨K, mg, pa, F, H, []⟩ F' H' e cls dd → E cls dd H')
def spO (K : PySem.W.Frag) (mg : Str → Option Value) (n : Nat) (m : List D → E0 (List D)) : Sp := fun vs H Q E => vs.length = n ∧ ∃ (pa : Option Addr) (F : Hp) (z : Zs) (ds : List D) (Qd : List D → Zs → Prop) (Xd : Er → Zs → Prop),
  Sub F H ∧ PC K mg pa F H z ∧ RpL K mg pa F vs ds ∧ m ds Qd Xd z ∧ (∀ ds z' a xs F' H', Qd ds z' → Aft K mg pa F H F' H' z' → H' a = some (.lst xs) → F' a = none → H a = none → some a ≠ pa → RpL K mg pa F' xs ds → Q (.ref a) H') ∧
  (∀ e z' cls dd F' H', Xd e z' → Aft K mg pa F H F' H' z' → ExR ⟨K, mg, pa, F, H, []⟩ F' H' e cls dd → E cls dd H')
/-- the slots at a def's entry -/
def rho0 (n : Nat) (ds : List D) : Rho := ds.map Sl.fr ++ List.replicate (n - ds.length) Sl.no
def outF (Q : D → Zs → Prop) : Fl → Rho → Zs → Prop
  | .nx, _, z => Q .non z
  | .ret d, _, z => Q d z
  | .retO ds, _, z => Q (.lst ds) z
  | _, _, _ => False
def outO (Q : List D → Zs → Prop) : Fl → Rho → Zs → Prop
  | .retO ds, _, z => Q ds z
  | _, _, _ => False
/-- a def's computation by its body's -/
def dF (n : Nat) (s : E Fl) : List D → E0 D := fun ds Q X z => s (rho0 n ds) (outF Q) (fun e _ z => X e z) z
def dO (n : Nat) (s : E Fl) : List D → E0 (List D) := fun ds Q X z => s (rho0 n ds) (outO Q) (fun e _ z => X e z) z

section
variable {P : Program} {w : World} {K : PySem.W.Frag} {mg : Str → Option Value} {base : Heap}
/-- the context of a def's body -/
abbrev cxG (P : Program) (w : World) (K : PySem.W.Frag) (mg : Str → Option Value) (base : Heap) (N : List Str) (qual : Str) (scope : Scope) (f : Addr) (cdv : Value) (A : Around) (outer : List PySem.Env) (s : Shared) (H : Hp) (E : XK) : Cx :=
  cxOf (L2.CX P w) P w K mg base N qual scope f cdv A outer s H E
abbrev wE (E : XK) : WX := fun cls d _ H => E cls d H
theorem start_ok {N : List Str} {vs : List V} {ds : List D} {pa : Option Addr} {F H : Hp} {z : Zs} (sub : Sub F H) (pz : PC K mg pa F H z) (r : RpL K mg pa F vs ds) (hn : vs.length ≤ N.length) :
    StOk ⟨K, mg, pa, F, H, []⟩ (L2.start N vs) (rho0 N.length ds) F H z := by
  have hl := RpL.length r
  refine ⟨sub, Same.refl F, Keep.refl, fun b h1 h2 => absurd h2 h1, ?_, fun i v s e1 e2 => ?_, fun i j x y a e1 _ _ _ => ?_, pz.1, (fun b hb => by cases hb), pz.2⟩
  · unfold L2.start rho0
    simp only [List.length_append, List.length_map, List.length_replicate]
    omega
  · unfold L2.start at e1
    unfold rho0 at e2
    by_cases hi : i < vs.length
    · rw [List.getElem?_append_left (by simpa using hi), List.getElem?_map] at e1
      rw [List.getElem?_append_left (by simpa using (show i < ds.length by omega)), List.getElem?_map] at e2
      cases q : vs[i]? with
      | none => rw [q] at e1; cases e1
      | some u =>
        rw [q] at e1
        cases e1
        obtain ⟨d, qd, rd⟩ := RpL.getV r q
        rw [qd] at e2
        cases e2
        exact rd
    · rw [List.getElem?_append_right (by simp; omega), List.getElem?_replicate] at e2
      split at e2
      · cases e2
        cases v <;> trivial
      · cases e2
  · unfold rho0 at e1
    by_cases hi : i < ds.length
    · rw [List.getElem?_append_left (by simpa using hi), List.getElem?_map] at e1
      cases q : ds[i]? with
      | none => rw [q] at e1; cases e1
      | some u => rw [q] at e1; cases e1
    · rw [List.getElem?_append_right (by simp; omega), List.getElem?_replicate] at e1
      split at e1
      · cases e1
      · cases e1
theorem StOk.aft {pa : Option Addr} {F H F' H' : Hp} {σ : L2.St} {ρ : Rho} {z : Zs} (S : StOk ⟨K, mg, pa, F, H, []⟩ σ ρ F' H' z) : Aft K mg pa F H F' H' z := ⟨S.f0, S.sub, S.h0, S.nw, S.pz, S.cs⟩
/-- behind a def its own list is frozen: whatever the slots say of it is forgotten -/
theorem StOk.frzAny {pa : Option Addr} {F H F' H' : Hp} {σ : L2.St} {ρ : Rho} {z : Zs} (S : StOk ⟨K, mg, pa, F, H, []⟩ σ ρ F' H' z) {a : Addr} {xs : List V} (e2 : H' a = some (.lst xs)) (e3 : F' a = none) (e4 : H a = none) (e5 : some a ≠ pa) :
    Aft K mg pa F H (upd F' a (.lst xs)) H' z := by
  refine ⟨S.f0.trans (Same.new e3), fun b u e n => ?_, S.h0.trans (Keep.frz ngL), fun b h1 h2 => ?_, fun q e => ?_, S.cs.grow (Same.new e3) (fun _ _ e => gh_upd ngL e) fun _ _ _ _ e => e⟩
  · by_cases q : b = a
    · subst q; rw [upd_same] at e; cases e; exact e2
    · rw [upd_ne q] at e; exact S.sub _ _ e n
  · by_cases q : b = a
    · rw [q]; exact e4
    · rw [upd_ne q] at h1; exact S.nw b h1 h2
  · obtain ⟨h1, r⟩ := S.pz q e
    have ne : q ≠ a := fun z => e5 (by rw [← z]; exact e.symm)
    exact ⟨by rw [upd_ne ne]; exact h1, r⟩
/-- the body's facts at the entry -/
theorem kx_of {k : Nat} {N ps : List Str} {qual : Str} {scope : Scope} {f : Addr} {cdv : Value} {A : Around} {outer : List PySem.Env} {s : Shared} {H : Hp} {E : XK} {pa : Option Addr} {F : Hp} (S : FnScope N ps scope) (hg : A.guards = some [])
    (hr : Room k (A.deeper (envOfC qual scope s.heap.objs.size f cdv))) : Kx (cxG P w K mg base N qual scope f cdv A outer s H E) ⟨K, mg, pa, F, H, []⟩ (wE E) k :=
  ⟨rfl, rfl, rfl, hg, hr, takes_of rfl rfl rfl rfl, S.nd, passes_of rfl⟩
theorem fnF_of {k : Nat} {f : Addr} {x qual : Str} {params : Arguments} {body : List Stmt} {scope : Scope} {dvs : List V} {kws : List (Str × V)} {fd : FuncData} {N ps : List Str} {st : E Fl}
    (F : FunD K x qual params body scope dvs kws f fd) (S : FnScope N ps scope)
    (hbody : ∀ (cdv : Value) (A : Around) (outer : List PySem.Env) (s : Shared) (H : Hp) (E : XK) (pa : Option Addr) (F0 : Hp), Kx (cxG P w K mg base N qual scope f cdv A outer s H E) ⟨K, mg, pa, F0, H, []⟩ (wE E) k →
      XSs (cxG P w K mg base N qual scope f cdv A outer s H E) ⟨K, mg, pa, F0, H, []⟩ (wE E) body st) : FnG P w K mg base (k + 1) f fd ps (spF K mg ps.length (dF N.length st)) := by
  refine fnG_of F S (fun vs H Q E h => h.1) fun cdv A outer s H vs Q E hg hr h => ?_
  obtain ⟨hl, pa, F0, z, ds, Qd, Xd, sub, pz, r, hm, hq, hx⟩ := h
  obtain ⟨t, h1, h2⟩ := (hbody cdv A outer s H E pa F0 (kx_of S hg hr)).ex
  have hn : vs.length ≤ N.length := by have := congrArg List.length S.pre; rw [List.length_take] at this; omega
  refine ⟨t, h1, h2 (L2.start N vs) (rho0 N.length ds) F0 H z (outF Qd) (fun e _ z => Xd e z) _ (start_ok sub pz r hn) hm (fun fl ρ' z' F' H' q ff => ?_) fun e ρ' z' cls dd σ' F' H' q S' ff r' => hx e z' cls dd F' H' q S'.aft r'⟩
  cases fl with
  | nx => exact fun σ S' => hq _ _ _ _ _ q S'.aft .non
  | ret d => exact fun σ v S' rv => hq _ _ _ _ _ q S'.aft rv
  | retO d =>
    intro σ v S' ⟨a, xs, e1, e2, e3, e4, e5, e6, _⟩
    subst e1
    exact hq _ _ _ _ _ q (S'.frzAny e2 e3 e4 e5) (.lst e5 upd_same (RpL.mono (Same.new e3) e6))
  | bk => exact False.elim q
  | ct => exact False.elim q
theorem fnO_of {k : Nat} {f : Addr} {x qual : Str} {params : Arguments} {body : List Stmt} {scope : Scope} {dvs : List V} {kws : List (Str × V)} {fd : FuncData} {N ps : List Str} {st : E Fl}
    (F : FunD K x qual params body scope dvs kws f fd) (S : FnScope N ps scope)
    (hbody : ∀ (cdv : Value) (A : Around) (outer : List PySem.Env) (s : Shared) (H : Hp) (E : XK) (pa : Option Addr) (F0 : Hp), Kx (cxG P w K mg base N qual scope f cdv A outer s H E) ⟨K, mg, pa, F0, H, []⟩ (wE E) k →
      XSs (cxG P w K mg base N qual scope f cdv A outer s H E) ⟨K, mg, pa, F0, H, []⟩ (wE E) body st) : FnG P w K mg base (k + 1) f fd ps (spO K mg ps.length (dO N.length st)) := by
  refine fnG_of F S (fun vs H Q E h => h.1) fun cdv A outer s H vs Q E hg hr h => ?_
  obtain ⟨hl, pa, F0, z, ds, Qd, Xd, sub, pz, r, hm, hq, hx⟩ := h
  obtain ⟨t, h1, h2⟩ := (hbody cdv A outer s H E pa F0 (kx_of S hg hr)).ex
  have hn : vs.length ≤ N.length := by have := congrArg List.length S.pre; rw [List.length_take] at this; omega
  refine ⟨t, h1, h2 (L2.start N vs) (rho0 N.length ds) F0 H z (outO Qd) (fun e _ z => Xd e z) _ (start_ok sub pz r hn) hm (fun fl ρ' z' F' H' q ff => ?_) fun e ρ' z' cls dd σ' F' H' q S' ff r' => hx e z' cls dd F' H' q S'.aft r'⟩
  cases fl with
  | retO d =>
    intro σ v S' ⟨a, xs, e1, e2, e3, e4, e5, e6, _⟩
    subst e1
    exact hq _ _ _ _ _ _ q S'.aft e2 e3 e4 e5 e6
  | nx => exact False.elim q
  | ret d => exact False.elim q
  | bk => exact False.elim q
  | ct => exact False.elim q
end
end DL

namespace DL
open PySem PySem.Spec PyProof.Rows L2

/-! ## calls of own defs -/
/-- how a call's values become the parameters' -/
structure BG (K : PySem.W.Frag) (fd : FuncData) (ps ks : List Str) (n : Nat) (gV : List V → List V → List V) (gD : List D → List D → List D) : Prop where
  to : ∀ (s : Shared) (us ws : List Value), K.In s.heap → us.length = n → ws.length = ks.length → ∃ us', BindsTo s fd ⟨us, ks.zip ws⟩ (ps.zip us') ∧ ∀ vs zs, Vals vs us → Vals zs ws → Vals (gV vs zs) us'
  rel : ∀ (mg : Str → Option Value) (pa : Option Addr) (F : Hp) vs ds zs es, RpL K mg pa F vs ds → RpL K mg pa F zs es → RpL K mg pa F (gV vs zs) (gD ds es)
def gL {α : Type} : List α → List α → List α := fun a _ => a
theorem bg_pos {K : PySem.W.Frag} {fd : FuncData} {ps : List Str} (h : Binds K fd ps []) : BG K fd ps [] ps.length gL gL :=
  ⟨fun s us ws X l1 l2 => ⟨us, (by
    have b := h s us X (by rw [List.append_nil]; exact l1)
    rw [List.append_nil] at b
    cases ws with
    | nil => exact b
    | cons a r => cases l2), fun vs zs r1 r2 => r1⟩, fun mg pa F vs ds zs es r1 r2 => r1⟩
/-- defaults fill up -/
theorem bg_dfl {K : PySem.W.Frag} {fd : FuncData} {ps : List Str} {n : Nat} {dvs : List V} {dds : List D} (h : ∃ ds, Vals dvs ds ∧ Binds K fd ps ds) (hn : n + dvs.length = ps.length) (hr : ∀ mg pa F, RpL K mg pa F dvs dds) :
    BG K fd ps [] n (fun a _ => a ++ dvs) (fun a _ => a ++ dds) := by
  obtain ⟨es, r, b⟩ := h
  refine ⟨fun s us ws X l1 l2 => ⟨us ++ es, ?_, fun vs zs r1 r2 => r1.append r⟩, fun mg pa F vs ds zs es r1 r2 => r1.append (hr mg pa F)⟩
  cases ws with
  | nil => exact b s us X (by rw [List.length_append, ← r.length]; omega)
  | cons a r => cases l2
section
variable {X : Cx} {C : CC} {W : WX} {k n j : Nat} {f : Addr} {fd : FuncData} {ps ks : List Str} {sp : Sp} {x : Str} {p pos kpos : Pos} {e : Expr} {es : List Expr} {kws : List Keyword} {t tk : TA} {gV : List V → List V → List V} {gD : List D → List D → List D} {nm : Option Str}
theorem run_g {pins : List (Addr × Obj)} {σ : L2.St} {H : Hp} {s : Shared} {Q : VK} {us ws : List Value} {vs zs : List V} (F : FnG X.prog X.w X.K X.mg X.base j f fd ps sp) (kx : Kx X C W k) (hj : j ≤ k) (hb : BG X.K fd ps ks n gV gD)
    (I : Inv X pins σ H s) (r : Vals vs us) (rz : Vals zs ws) (l1 : vs.length = n) (l2 : zs.length = ks.length) (h : sp (gV vs zs) H Q (WE W σ)) : wpAny (model X.prog X.w) X.A (call (.ref f) us (ks.zip ws)) (EP X pins σ Q) X.xe s := by
  obtain ⟨us', b, rr⟩ := hb.to s us ws I.kIn (r.length.symm.trans l1) (rz.length.symm.trans l2)
  refine wpAny_call (codeAny_mono (F.run X.A X.stack s H ⟨us, ks.zip ws⟩ us' (gV vs zs) Q (WE W σ) kx.gu (kx.room.mono hj) I.env0 b (rr _ _ r rz) h) fun r s' hq => ?_)
  cases r with
  | error e => exact passAt kx.tk σ pins H s e s' I hq
  | ok fl =>
    cases fl with
    | ret u => exact I.after hq
    | next => exact False.elim hq
    | brk => exact False.elim hq
    | cont => exact False.elim hq
def tCG (n m : Nat) (sp : Sp) (gV : List V → List V → List V) (W : WX) (t tk : TA) : TE := fun σ H Q => t σ H fun vs H1 => tk σ H1 fun zs H2 => vs.length = n ∧ zs.length = m ∧ sp (gV vs zs) H2 Q (WE W σ)
/-- the def that a global name holds -/
structure GF (X : Cx) (x : Str) (j : Nat) (f : Addr) (fd : FuncData) (ps : List Str) (sp : Sp) : Prop where
  fn : FnG X.prog X.w X.K X.mg X.base j f fd ps sp
  mg : X.mg x = some (.ref f)
  kp : PySem.W.keepIn X.K (.ref f) = true
theorem pe_cg (G : GF X x j f fd ps sp) (kx : Kx X C W k) (hj : j ≤ k) (hb : BG X.K fd ps [] n gV gD) (hg : Gl X x)
    (ha : PA X (e :: es) t) (hdb : (x == ("__debug__" : Str)) = false := by decide) (he : starEach (e :: es) X.env = (false, eval e X.env) :: starEach es X.env := by rfl) (hpl : (backTo pos (starEach es X.env)).any (·.1) = false := by rfl) :
    PE X (.Call (.Name x p) (e :: es) [] pos) (tCG n 0 sp gV W t tNil) := by
  refine ⟨fun pins s σ H Q I h => ?_⟩
  refine wpAny_Call_Name_kw (ld_glob I hg G.mg ?_ hdb)
  refine PySem.W.callWith_K (h₀ := X.base) I.ok.mod.kin G.kp (thn (ha.run pos pins s σ H _ I h) fun us s1 ⟨vs, H1, I1, r, l1, l2, q⟩ => ⟨I1.kIn, ?_⟩) he hpl
  exact run_g (us := us) (ws := []) G.fn kx hj hb I1 r .nil l1 rfl q
theorem pe_cg0 (G : GF X x j f fd ps sp) (kx : Kx X C W k) (hj : j ≤ k) (hb : BG X.K fd ps [] n gV gD) (hg : Gl X x) (hdb : (x == ("__debug__" : Str)) = false := by decide) :
    PE X (.Call (.Name x p) [] [] pos) (tCG n 0 sp gV W tNil tNil) := by
  refine ⟨fun pins s σ H Q I h => ?_⟩
  refine wpAny_Call_Name_kw (ld_glob I hg G.mg ?_ hdb)
  obtain ⟨l1, l2, q⟩ := h
  exact PySem.W.callWith_K0 I.kIn G.kp (run_g (us := []) (ws := []) G.fn kx hj hb I .nil .nil l1 rfl q)
theorem pe_cgK (G : GF X x j f fd ps sp) (kx : Kx X C W k) (hj : j ≤ k) (hb : BG X.K fd ps ks n gV gD) (hg : Gl X x)
    (ha : PA X (e :: es) t) (hkw : PK X kws tk) (hall : (backToKw pos (keywordEach kws X.env)).all (·.1.isSome) = true := by rfl) (hks : (backToKw pos (keywordEach kws X.env)).filterMap (·.1) = ks := by rfl)
    (hdb : (x == ("__debug__" : Str)) = false := by decide) (he : starEach (e :: es) X.env = (false, eval e X.env) :: starEach es X.env := by rfl)
    (hpl : ((backTo pos (starEach (e :: es) X.env)).any (·.1) || (backToKw pos (keywordEach kws X.env)).any (·.1.isNone)) = false := by rfl) :
    PE X (.Call (.Name x p) (e :: es) kws pos) (tCG n ks.length sp gV W t tk) := by
  refine ⟨fun pins s σ H Q I h => ?_⟩
  refine wpAny_Call_Name_kw (ld_glob I hg G.mg ?_ hdb)
  refine PySem.W.callWith_KW (h₀ := X.base) I.ok.mod.kin G.kp hall (thn (ha.run pos pins s σ H _ I h) fun us s1 ⟨vs, H1, I1, r, q⟩ => ?_) hpl he
  refine thn (hkw.run pos pins s1 σ H1 _ I1 q) fun ws s2 ⟨zs, H2, I2, rz, l1, l2, q2⟩ => ⟨I2.kIn, ?_⟩
  rw [hks]
  exact run_g (us := us) (ws := ws) G.fn kx hj hb I2 r rz l1 l2 q2
theorem pe_cgK0 (G : GF X x j f fd ps sp) (kx : Kx X C W k) (hj : j ≤ k) (hb : BG X.K fd ps ks n gV gD) (hg : Gl X x)
    (hkw : PK X kws tk) (hall : (backToKw pos (keywordEach kws X.env)).all (·.1.isSome) = true := by rfl) (hks : (backToKw pos (keywordEach kws X.env)).filterMap (·.1) = ks := by rfl)
    (hdb : (x == ("__debug__" : Str)) = false := by decide)
    (hpl : ((backTo pos (starEach [] X.env)).any (·.1) || (backToKw pos (keywordEach kws X.env)).any (·.1.isNone)) = false := by rfl) :
    PE X (.Call (.Name x p) [] kws pos) (tCG n ks.length sp gV W tNil tk) := by
  refine ⟨fun pins s σ H Q I h => ?_⟩
  refine wpAny_Call_Name_kw (ld_glob I hg G.mg ?_ hdb)
  refine PySem.W.callWith_KW0 (h₀ := X.base) I.ok.mod.kin G.kp hall (thn (hkw.run pos pins s σ H _ I h) fun ws s2 ⟨zs, H2, I2, rz, l1, l2, q2⟩ => ⟨I2.kIn, ?_⟩) hpl
  rw [hks]
  exact run_g (us := []) (ws := ws) G.fn kx hj hb I2 .nil rz l1 l2 q2

/-! ### .. on data -/
structure XKw (X : Cx) (C : CC) (W : WX) (ks : List Keyword) (m : E (List D)) : Prop where
  ex : ∃ t, PK X ks t ∧ Den C W t m (kL C)
theorem xk_nil : XKw X C W [] (ep []) := ⟨tNil, pk_nil, fun σ ρ F H z Qd Xd Q S hm hq hx => S.same (R := kL C) hm .nil hq⟩
theorem xk_cons {m : E D} {ms : E (List D)} (h : XE X C W e m) (hs : XKw X C W kws ms) : XKw X C W (⟨nm, e, kpos⟩ :: kws) (eb m fun d => eb ms fun ds => ep (d :: ds)) := by
  obtain ⟨t, h1, h2⟩ := h.ex
  obtain ⟨ts, g1, g2⟩ := hs.ex
  refine ⟨tCons t ts, pk_cons h1 g1, Den.bind (u := fun x σ H Q => ts σ H fun xs H2 => Q (x :: xs) H2) back_L h2 fun H0 σ ρ F H z a x Qd Xd Q S ra hm hq hx => ?_⟩
  exact g2 σ ρ F H z _ Xd _ S hm (fun ds ρ2 z2 xs F2 H2 q2 S2 ff2 k2 o2 rb => hq _ ρ2 z2 _ F2 H2 q2 S2 ff2 k2 o2 (.cons (Rp.mono ff2 ra) rb)) hx
def fCall {α : Type} (n n1 n2 : Nat) (m : List D → E0 α) (gD : List D → List D → List D) (ds es : List D) : E α := fun ρ Q X z => ds.length = n1 ∧ es.length = n2 ∧ (gD ds es).length = n ∧ e0 (m (gD ds es)) ρ Q X z
def eCall {α : Type} (n n1 n2 : Nat) (m : List D → E0 α) (gD : List D → List D → List D) (ma mk : E (List D)) : E α := eb ma fun ds => eb mk fun es => fCall n n1 n2 m gD ds es
theorem StOk.call {σ : L2.St} {ρ : Rho} {F H F' H' : Hp} {z z' : Zs} (S : StOk C σ ρ F H z) (a : Aft C.K C.mg C.pa F H F' H' z') : StOk C σ ρ F' H' z' := S.grow a.1 a.2.1 a.2.2.1 a.2.2.2.1 a.2.2.2.2.1 a.2.2.2.2.2
theorem den_callF {N n1 n2 : Nat} {ta tk : TA} {ma mk : E (List D)} {m : List D → E0 D} {gV : List V → List V → List V} {gD : List D → List D → List D} (hK : X.K = C.K) (hmg : X.mg = C.mg)
    (hr : ∀ (mg : Str → Option Value) (pa : Option Addr) (F : Hp) vs ds zs es, RpL X.K mg pa F vs ds → RpL X.K mg pa F zs es → RpL X.K mg pa F (gV vs zs) (gD ds es))
    (ha : Den C W ta ma (kL C)) (hk : Den C W tk mk (kL C)) : Den C W (tCG n1 n2 (spF X.K X.mg N m) gV W ta tk) (eCall N n1 n2 m gD ma mk) (kR C) := by
  rw [hK, hmg]
  rw [hK] at hr
  refine Den.bind (u := fun vs σ H Q => tk σ H fun zs H2 => vs.length = n1 ∧ zs.length = n2 ∧ spF C.K C.mg N m (gV vs zs) H2 Q (WE W σ)) back_R ha ?_
  intro H0 σ ρ F H z ds vs Qd Xd Q S ra hm hq hx
  refine hk σ ρ F H z _ Xd _ S hm (fun es ρ2 z2 zs F2 H2 q2 S2 ff2 k2 o2 rb => ?_) hx
  obtain ⟨q1, q2, q3, q4⟩ := q2
  have ra2 : C.RL F2 vs ds := RpL.mono ff2 ra
  have rr : C.RL F2 (gV vs zs) (gD ds es) := hr C.mg C.pa F2 vs ds zs es ra2 rb
  refine ⟨(RpL.length ra).trans q1, (RpL.length rb).trans q2, (RpL.length rr).trans q3, C.pa, F2, z2, gD ds es, _, _, S2.sub, ⟨S2.pz, S2.cs⟩, rr, q4, fun d z' v F' H' q' a r => ?_, fun e z' cls dd F' H' q' a r => ?_⟩
  · refine hq d ρ2 z' v F' H' q' (S2.call a) (ff2.trans a.1) (k2.trans a.2.2.1) o2 r
  · refine hx e ρ2 z' cls dd F' H' q' (S2.call a) (ff2.trans a.1) r
theorem den_callO {N n1 n2 : Nat} {ta tk : TA} {ma mk : E (List D)} {m : List D → E0 (List D)} {gV : List V → List V → List V} {gD : List D → List D → List D} (hK : X.K = C.K) (hmg : X.mg = C.mg)
    (hr : ∀ (mg : Str → Option Value) (pa : Option Addr) (F : Hp) vs ds zs es, RpL X.K mg pa F vs ds → RpL X.K mg pa F zs es → RpL X.K mg pa F (gV vs zs) (gD ds es))
    (ha : Den C W ta ma (kL C)) (hk : Den C W tk mk (kL C)) : Den C W (tCG n1 n2 (spO X.K X.mg N m) gV W ta tk) (eCall N n1 n2 m gD ma mk) (RO C) := by
  rw [hK, hmg]
  rw [hK] at hr
  refine Den.bind (u := fun vs σ H Q => tk σ H fun zs H2 => vs.length = n1 ∧ zs.length = n2 ∧ spO C.K C.mg N m (gV vs zs) H2 Q (WE W σ)) back_O ha ?_
  intro H0 σ ρ F H z ds vs Qd Xd Q S ra hm hq hx
  refine hk σ ρ F H z _ Xd _ S hm (fun es ρ2 z2 zs F2 H2 q2 S2 ff2 k2 o2 rb => ?_) hx
  obtain ⟨q1, q2, q3, q4⟩ := q2
  have ra2 : C.RL F2 vs ds := RpL.mono ff2 ra
  have rr : C.RL F2 (gV vs zs) (gD ds es) := hr C.mg C.pa F2 vs ds zs es ra2 rb
  refine ⟨(RpL.length ra).trans q1, (RpL.length rb).trans q2, (RpL.length rr).trans q3, C.pa, F2, z2, gD ds es, _, _, S2.sub, ⟨S2.pz, S2.cs⟩, rr, q4, fun d z' a xs F' H' q' af e1 e2 e3 e4 r => ?_, fun e z' cls dd F' H' q' a r => ?_⟩
  · refine hq d ρ2 z' _ F' H' q' (S2.call af) (ff2.trans af.1) (k2.trans af.2.2.1) o2 ?_
    exact back_O (C := C) H H2 F' H' (.ref a) d k2.dm ⟨a, xs, rfl, e1, e2, e3, e4, r⟩
  · refine hx e ρ2 z' cls dd F' H' q' (S2.call a) (ff2.trans a.1) r
section
variable {N : Nat} {ma mk : E (List D)} {m : List D → E0 D} {mo : List D → E0 (List D)}
theorem xe_call (G : GF X x j f fd ps (spF X.K X.mg N m)) (kx : Kx X C W k) (hj : j ≤ k) (hb : BG X.K fd ps [] n gV gD) (hg : Gl X x)
    (ha : XA X C W (e :: es) ma) (hdb : (x == ("__debug__" : Str)) = false := by decide) (he : starEach (e :: es) X.env = (false, eval e X.env) :: starEach es X.env := by rfl) (hpl : (backTo pos (starEach es X.env)).any (·.1) = false := by rfl) :
    XE X C W (.Call (.Name x p) (e :: es) [] pos) (eCall N n 0 m gD ma (ep [])) := by
  obtain ⟨t, h1, h2⟩ := ha.ex
  exact ⟨_, pe_cg G kx hj hb hg h1 hdb he hpl, den_callF kx.hK kx.hmg hb.rel h2 (fun σ ρ F H z Qd Xd Q S hm hq hx => S.same (R := kL C) hm .nil hq)⟩
theorem xe_call0 (G : GF X x j f fd ps (spF X.K X.mg N m)) (kx : Kx X C W k) (hj : j ≤ k) (hb : BG X.K fd ps [] n gV gD) (hg : Gl X x) (hdb : (x == ("__debug__" : Str)) = false := by decide) :
    XE X C W (.Call (.Name x p) [] [] pos) (eCall N n 0 m gD (ep []) (ep [])) :=
  ⟨_, pe_cg0 G kx hj hb hg hdb, den_callF kx.hK kx.hmg hb.rel (fun σ ρ F H z Qd Xd Q S hm hq hx => S.same (R := kL C) hm .nil hq) (fun σ ρ F H z Qd Xd Q S hm hq hx => S.same (R := kL C) hm .nil hq)⟩
theorem xo_call (G : GF X x j f fd ps (spO X.K X.mg N mo)) (kx : Kx X C W k) (hj : j ≤ k) (hb : BG X.K fd ps [] n gV gD) (hg : Gl X x)
    (ha : XA X C W (e :: es) ma) (hdb : (x == ("__debug__" : Str)) = false := by decide) (he : starEach (e :: es) X.env = (false, eval e X.env) :: starEach es X.env := by rfl) (hpl : (backTo pos (starEach es X.env)).any (·.1) = false := by rfl) :
    XO X C W (.Call (.Name x p) (e :: es) [] pos) (eCall N n 0 mo gD ma (ep [])) := by
  obtain ⟨t, h1, h2⟩ := ha.ex
  exact ⟨_, pe_cg G kx hj hb hg h1 hdb he hpl, den_callO kx.hK kx.hmg hb.rel h2 (fun σ ρ F H z Qd Xd Q S hm hq hx => S.same (R := kL C) hm .nil hq)⟩
theorem xe_callK (G : GF X x j f fd ps (spF X.K X.mg N m)) (kx : Kx X C W k) (hj : j ≤ k) (hb : BG X.K fd ps ks n gV gD) (hg : Gl X x)
    (ha : XA X C W (e :: es) ma) (hkw : XKw X C W kws mk) (hall : (backToKw pos (keywordEach kws X.env)).all (·.1.isSome) = true := by rfl) (hks : (backToKw pos (keywordEach kws X.env)).filterMap (·.1) = ks := by rfl)
    (hdb : (x == ("__debug__" : Str)) = false := by decide) (he : starEach (e :: es) X.env = (false, eval e X.env) :: starEach es X.env := by rfl)
    (hpl : ((backTo pos (starEach (e :: es) X.env)).any (·.1) || (backToKw pos (keywordEach kws X.env)).any (·.1.isNone)) = false := by rfl) :
    XE X C W (.Call (.Name x p) (e :: es) kws pos) (eCall N n ks.length m gD ma mk) := by
  obtain ⟨t, h1, h2⟩ := ha.ex
  obtain ⟨u, g1, g2⟩ := hkw.ex
  exact ⟨_, pe_cgK G kx hj hb hg h1 g1 hall hks hdb he hpl, den_callF kx.hK kx.hmg hb.rel h2 g2⟩
theorem xe_callK0 (G : GF X x j f fd ps (spF X.K X.mg N m)) (kx : Kx X C W k) (hj : j ≤ k) (hb : BG X.K fd ps ks n gV gD) (hg : Gl X x)
    (hkw : XKw X C W kws mk) (hall : (backToKw pos (keywordEach kws X.env)).all (·.1.isSome) = true := by rfl) (hks : (backToKw pos (keywordEach kws X.env)).filterMap (·.1) = ks := by rfl)
    (hdb : (x == ("__debug__" : Str)) = false := by decide)
    (hpl : ((backTo pos (starEach [] X.env)).any (·.1) || (backToKw pos (keywordEach kws X.env)).any (·.1.isNone)) = false := by rfl) :
    XE X C W (.Call (.Name x p) [] kws pos) (eCall N n ks.length m gD (ep []) mk) := by
  obtain ⟨u, g1, g2⟩ := hkw.ex
  exact ⟨_, pe_cgK0 G kx hj hb hg g1 hall hks hdb hpl, den_callF kx.hK kx.hmg hb.rel (fun σ ρ F H z Qd Xd Q S hm hq hx => S.same (R := kL C) hm .nil hq) g2⟩
theorem xo_callK0 (G : GF X x j f fd ps (spO X.K X.mg N mo)) (kx : Kx X C W k) (hj : j ≤ k) (hb : BG X.K fd ps ks n gV gD) (hg : Gl X x)
    (hkw : XKw X C W kws mk) (hall : (backToKw pos (keywordEach kws X.env)).all (·.1.isSome) = true := by rfl) (hks : (backToKw pos (keywordEach kws X.env)).filterMap (·.1) = ks := by rfl)
    (hdb : (x == ("__debug__" : Str)) = false := by decide)
    (hpl : ((backTo pos (starEach [] X.env)).any (·.1) || (backToKw pos (keywordEach kws X.env)).any (·.1.isNone)) = false := by rfl) :
    XO X C W (.Call (.Name x p) [] kws pos) (eCall N n ks.length mo gD (ep []) mk) := by
  obtain ⟨u, g1, g2⟩ := hkw.ex
  exact ⟨_, pe_cgK0 G kx hj hb hg g1 hall hks hdb hpl, den_callO kx.hK kx.hmg hb.rel (fun σ ρ F H z Qd Xd Q S hm hq hx => S.same (R := kL C) hm .nil hq) g2⟩
theorem xo_callK (G : GF X x j f fd ps (spO X.K X.mg N mo)) (kx : Kx X C W k) (hj : j ≤ k) (hb : BG X.K fd ps ks n gV gD) (hg : Gl X x)
    (ha : XA X C W (e :: es) ma) (hkw : XKw X C W kws mk) (hall : (backToKw pos (keywordEach kws X.env)).all (·.1.isSome) = true := by rfl) (hks : (backToKw pos (keywordEach kws X.env)).filterMap (·.1) = ks := by rfl)
    (hdb : (x == ("__debug__" : Str)) = false := by decide) (he : starEach (e :: es) X.env = (false, eval e X.env) :: starEach es X.env := by rfl)
    (hpl : ((backTo pos (starEach (e :: es) X.env)).any (·.1) || (backToKw pos (keywordEach kws X.env)).any (·.1.isNone)) = false := by rfl) :
    XO X C W (.Call (.Name x p) (e :: es) kws pos) (eCall N n ks.length mo gD ma mk) := by
  obtain ⟨t, h1, h2⟩ := ha.ex
  obtain ⟨u, g1, g2⟩ := hkw.ex
  exact ⟨_, pe_cgK G kx hj hb hg h1 g1 hall hks hdb he hpl, den_callO kx.hK kx.hmg hb.rel h2 g2⟩
end
end
end DL

namespace DL
open PySem PySem.Spec PyProof.Rows L2

section
variable {X : Cx} {C : CC} {W : WX} {e a b : Expr} {m ma mb : E D} {pos p2 : Pos} {k : Nat} {lo hi : Option Expr}
/-! ## subscripts -/
theorem RpL.atI {K : PySem.W.Frag} {mg : Str → Option Value} {pa : Option Addr} {F : Hp} {vs : List V} {ds : List D} {i : Int} {d : D} (h : RpL K mg pa F vs ds) (e : atI ds i = some d) : ∃ v, L2.atI vs i = some v ∧ Rp K mg pa F v d := by
  unfold L2.atI at e ⊢
  rw [RpL.length h]
  cases q : ixN ds.length i with
  | none => rw [q] at e; cases e
  | some j =>
    rw [q] at e
    exact RpL.get h e
theorem o_ix : Op2 C W (rIx C.K) (fun x y => eP (dIx x y)) (kR C) := op2_flat fun F H x y dx dy Q Qd s rx ry hp hq => by
  cases dy with
  | int i =>
    obtain rfl := RT.int ry
    cases dx with
    | lst ds =>
      obtain ⟨d, e, q⟩ := hp
      obtain ⟨a, xs, rfl, ha, r, _⟩ := RT.lst s rx
      obtain ⟨v, e1, r1⟩ := RpL.atI r e
      exact .inl ⟨a, xs, i, v, rfl, rfl, .inl (.inl ha), e1, hq _ _ q r1⟩
    | tup ds =>
      obtain ⟨d, e, q⟩ := hp
      obtain ⟨a, xs, rfl, ha, r⟩ := RT.tup s rx
      obtain ⟨v, e1, r1⟩ := RpL.atI r e
      exact .inr (.inl ⟨a, xs, i, v, rfl, rfl, ha, e1, hq _ _ q r1⟩)
    | str z =>
      obtain ⟨h1, c, e, q⟩ := hp
      obtain rfl := RT.str rx
      exact .inr (.inr ⟨z, i, c, rfl, rfl, line_le h1, e, hq _ _ q (.str _)⟩)
    | scr ns =>
      obtain ⟨j, e, q⟩ := hp
      obtain ⟨a, rfl, ha⟩ := RT.scr s rx
      have e1 : L2.atI (ns.map V.int) i = some (V.int j) := by
        unfold L2.atI at e ⊢
        rw [List.length_map]
        cases q : ixN ns.length i with
        | none => rw [q] at e; cases e
        | some k =>
          rw [q] at e
          show (ns.map V.int)[k]? = _
          rw [List.getElem?_map, show ns[k]? = some j from e]
          rfl
      exact .inl ⟨a, _, i, _, rfl, rfl, ha, e1, hq _ _ q (.int _)⟩
    | _ => exact hp.elim
  | _ => cases dx <;> exact hp.elim
theorem xe_ix (hK : X.K = C.K) (ha : XP X C W a ma) (hb : XP X C W b mb) (hs : PlainIx b) : XE X C W (.Subscript a b pos) (eb ma fun x => eb mb fun y => eP (dIx x y)) := by
  obtain ⟨ta, a1, a2⟩ := ha.ex
  obtain ⟨tb, b1, b2⟩ := hb.ex
  refine ⟨_, pe_ix ix_seq a1 b1 hs, ?_⟩
  rw [hK]
  exact den_op back_R a2 b2 o_ix

/-! ## slices -/
structure XPart (X : Cx) (C : CC) (W : WX) (e : Option Expr) (m : E (Option Int)) : Prop where
  ex : ∃ t, PO X e t ∧ Den C W t m (fun _ _ _ a b => a = b)
def fPart : D → E (Option Int)
  | .int i => ep (some i)
  | _ => eStuck
theorem xpt_none : XPart X C W none (ep none) := ⟨tNoPart, po_none, fun σ ρ F H z Qd Xd Q S hm hq hx => S.same (R := fun _ _ _ a b => a = b) hm rfl hq⟩
theorem xpt_some (h : XP X C W e m) : XPart X C W (some e) (eb m fPart) := by
  obtain ⟨t, h1, h2⟩ := h.ex
  refine ⟨_, po_some h1, Den.bind (u := fun x (_ : L2.St) H Q => ∃ i, x = .int i ∧ Q (some i) H) (fun _ _ _ _ _ _ _ h => h) h2 fun H0 σ ρ F H z a x Qd Xd Q S ra hm hq hx => ?_⟩
  cases a with
  | int i =>
    obtain rfl := RT.int (RK.now ra)
    exact ⟨i, rfl, S.same (R := fun _ _ _ a b => a = b) hm rfl hq⟩
  | _ => exact False.elim hm
def cutD (xs : List D) (lo hi : Option Int) : List D := (xs.drop (HT.sIx xs.length 0 lo)).take (HT.sIx xs.length xs.length hi - HT.sIx xs.length 0 lo)
theorem RpL.cut {K : PySem.W.Frag} {mg : Str → Option Value} {pa : Option Addr} {F : Hp} {vs : List V} {ds : List D} (h : RpL K mg pa F vs ds) (lo hi : Option Int) : RpL K mg pa F (cutV vs lo hi) (cutD ds lo hi) := by
  unfold cutV cutD
  rw [RpL.length h]
  exact RpL.take _ (RpL.drop _ h)
/-- a slice of a list: a new list -/
def fSlO (d : D) (lo hi : Option Int) : E (List D) := match d with
  | .lst ds => ep (cutD ds lo hi)
  | _ => eStuck
def fSlE (d : D) (lo hi : Option Int) : E D := match d with
  | .tup ds => ep (.tup (cutD ds lo hi))
  | .str s => fun ρ Q _ z => s.length ≤ 16777216 ∧ Q (.str (Txt.slice s lo hi)) ρ z
  | _ => eStuck
theorem den_sl {α : Type} {te : TE} {tl th : TO} {ml mh : E (Option Int)} {r : V → Option Int → Option Int → Hp → VK → Prop} {f : D → Option Int → Option Int → E α} {R : Hp → Hp → Hp → V → α → Prop} (hB : Back C R)
    (he : Den C W te m (kT C)) (hl : Den C W tl ml (fun _ _ _ a b => a = b)) (hh : Den C W th mh (fun _ _ _ a b => a = b))
    (ho : ∀ lo hi, Op1 C W (fun x H Q => r x lo hi H Q) (fun d => f d lo hi) R) : Den C W (tSl r te tl th) (eb m fun d => eb ml fun lo => eb mh fun hi => f d lo hi) R := by
  refine Den.bind (u := fun x σ H Q => tl σ H fun l H2 => th σ H2 fun u H3 => r x l u H3 Q) hB he fun H0 σ ρ F H z d x Qd Xd Q S rx hm hq hx => ?_
  refine hl σ ρ F H z _ Xd _ S hm (fun l ρ2 z2 l' F2 H2 q2 S2 ff2 k2 o2 el => ?_) hx
  subst el
  refine hh σ ρ2 F2 H2 z2 _ Xd _ S2 q2 (fun u ρ3 z3 u' F3 H3 q3 S3 ff3 k3 o3 eu => ?_) (fun e ρ' z' cls dd F' H' q' S' ff' r' => hx e ρ' z' cls dd F' H' q' S' (ff2.trans ff') r')
  subst eu
  exact ho _ _ σ ρ3 F3 H3 z3 x d Qd Xd Q S3 ((rx.keep ff2 k2).keep ff3 k3).now q3
    (fun c ρ' z' d' F' H' q' S' ff' k' o' r' => hq c ρ' z' d' F' H' q' S' (ff2.trans (ff3.trans ff')) (k2.trans (k3.trans k')) ((o'.trans o3).trans o2) (hB _ _ _ _ _ _ (k2.trans k3).dm r'))
    (fun e ρ' z' cls dd F' H' q' S' ff' r' => hx e ρ' z' cls dd F' H' q' S' (ff2.trans (ff3.trans ff')) r')
theorem o_slO (lo hi : Option Int) : Op1 C W (fun x H Q => rSlL C.K x lo hi H Q) (fun d => fSlO d lo hi) (RO C) := fun σ ρ F H z x dx Qd Xd Q S rx hm hq hx => by
  cases dx with
  | lst ds =>
    obtain ⟨a, xs, rfl, ha, r, _⟩ := RT.lst S.sub rx
    exact ⟨a, xs, rfl, .inl (.inl ha), fun p hp => S.newL hp (RpL.cut r lo hi) hm hq⟩
  | _ => exact False.elim hm
theorem cut_all {ds : List D} {lo hi : Option Int} (h : HT.sIx ds.length 0 lo = 0 ∧ HT.sIx ds.length ds.length hi = ds.length) : cutD ds lo hi = ds := by
  unfold cutD
  rw [h.1, h.2]
  simp
theorem o_slE (lo hi : Option Int) : Op1 C W (fun x H Q => rSlA C.K x lo hi H Q ∨ C8.rSlX x lo hi H Q) (fun d => fSlE d lo hi) (kR C) := fun σ ρ F H z x dx Qd Xd Q S rx hm hq hx => by
  cases dx with
  | tup ds =>
    obtain ⟨a, xs, rfl, ha, r⟩ := RT.tup S.sub rx
    have hl := RpL.length r
    refine .inl ⟨a, xs, rfl, ha, fun hw => ?_, fun _ p hp => S.newT hp (RpL.cut r lo hi) hm hq⟩
    rw [hl] at hw
    have e := cut_all hw
    have hm' : Qd (.tup (cutD ds lo hi)) ρ z := hm
    rw [e] at hm'
    refine S.same (R := kR C) hm' ?_ hq
    exact rx.fro fun _ z => z
  | str s =>
    obtain rfl := RT.str rx
    exact .inr ⟨s, rfl, line_le hm.1, S.same (R := kR C) hm.2 (.str _) hq⟩
  | _ => exact False.elim hm
theorem xo_slice {ml mh : E (Option Int)} (hK : X.K = C.K) (he : XP X C W e m) (hl : XPart X C W lo ml) (hh : XPart X C W hi mh) : XO X C W (.Subscript e (.Slice lo hi none p2) pos) (eb m fun d => eb ml fun lo => eb mh fun hi => fSlO d lo hi) := by
  obtain ⟨t, a1, a2⟩ := he.ex
  obtain ⟨tl, b1, b2⟩ := hl.ex
  obtain ⟨th, c1, c2⟩ := hh.ex
  refine ⟨_, pe_slice sl_list a1 b1 c1, ?_⟩
  rw [hK]
  exact den_sl back_O a2 b2 c2 o_slO
theorem xe_slice {ml mh : E (Option Int)} (hK : X.K = C.K) (he : XP X C W e m) (hl : XPart X C W lo ml) (hh : XPart X C W hi mh) : XE X C W (.Subscript e (.Slice lo hi none p2) pos) (eb m fun d => eb ml fun lo => eb mh fun hi => fSlE d lo hi) := by
  obtain ⟨t, a1, a2⟩ := he.ex
  obtain ⟨tl, b1, b2⟩ := hl.ex
  obtain ⟨th, c1, c2⟩ := hh.ex
  refine ⟨_, pe_slice (sl_tupA.or C8.sl_txt) a1 b1 c1, ?_⟩
  rw [hK]
  exact den_sl back_R a2 b2 c2 o_slE

/-! ## built-in functions -/
section
variable {x : Str} {p : Pos} {id T : String} {r : List V → Hp → VK → Prop} {f : D → E D} {fo : D → E (List D)} {f2 : D → D → E D}
abbrev S1 (X : Cx) (a : Expr) : Prop := starEach [a] X.env = (false, eval a X.env) :: starEach [] X.env
theorem pa1 {ta : TE} (ha : PE X a ta) (h1 : S1 X a) : PA X [a] (tCons ta tNil) := pa_cons ha pa_nil h1
theorem pa2 {ta tb : TE} (ha : PE X a ta) (hb : PE X b tb) (hp : starEach (a :: [b]) X.env = (false, eval a X.env) :: starEach [b] X.env) (h1 : S1 X b) : PA X [a, b] (tCons ta (tCons tb tNil)) := pa_cons ha (pa_cons hb pa_nil h1) hp
theorem xe_b1 (hc : CallR X (.builtin id) r) (ho : Op1 C W (fun x H Q => r [x] H Q) f (kR C)) (ha : XP X C W a ma) (hg : Gl X x) (hm : X.mg x = none) (hv : bootBuiltins x = some (.builtin id)) (hn : x ≠ "__name__" := by decide) (hdb : (x == ("__debug__" : Str)) = false := by decide) (h1 : S1 X a := by rfl) :
    XE X C W (.Call (.Name x p) [a] [] pos) (eb ma f) := by
  obtain ⟨ta, a1, a2⟩ := ha.ex
  exact ⟨_, pe_callB hc hg hm hv (pa1 a1 h1) hn hdb h1, den_un (r := fun x H Q => r [x] H Q) back_R a2 ho⟩
theorem xe_t1 (hc : CallR X (.type T) r) (ho : Op1 C W (fun x H Q => r [x] H Q) f (kR C)) (ha : XP X C W a ma) (hg : Gl X x) (hm : X.mg x = none) (hv : bootBuiltins x = some (.type T)) (hn : x ≠ "__name__" := by decide) (hdb : (x == ("__debug__" : Str)) = false := by decide) (h1 : S1 X a := by rfl) :
    XE X C W (.Call (.Name x p) [a] [] pos) (eb ma f) := by
  obtain ⟨ta, a1, a2⟩ := ha.ex
  exact ⟨_, pe_callTy hc hg hm hv (pa1 a1 h1) hn hdb h1, den_un (r := fun x H Q => r [x] H Q) back_R a2 ho⟩
theorem xo_b1 (hc : CallR X (.builtin id) r) (ho : Op1 C W (fun x H Q => r [x] H Q) fo (RO C)) (ha : XP X C W a ma) (hg : Gl X x) (hm : X.mg x = none) (hv : bootBuiltins x = some (.builtin id)) (hn : x ≠ "__name__" := by decide) (hdb : (x == ("__debug__" : Str)) = false := by decide) (h1 : S1 X a := by rfl) :
    XO X C W (.Call (.Name x p) [a] [] pos) (eb ma fo) := by
  obtain ⟨ta, a1, a2⟩ := ha.ex
  exact ⟨_, pe_callB hc hg hm hv (pa1 a1 h1) hn hdb h1, den_un (r := fun x H Q => r [x] H Q) back_O a2 ho⟩
theorem xo_t1 (hc : CallR X (.type T) r) (ho : Op1 C W (fun x H Q => r [x] H Q) fo (RO C)) (ha : XP X C W a ma) (hg : Gl X x) (hm : X.mg x = none) (hv : bootBuiltins x = some (.type T)) (hn : x ≠ "__name__" := by decide) (hdb : (x == ("__debug__" : Str)) = false := by decide) (h1 : S1 X a := by rfl) :
    XO X C W (.Call (.Name x p) [a] [] pos) (eb ma fo) := by
  obtain ⟨ta, a1, a2⟩ := ha.ex
  exact ⟨_, pe_callTy hc hg hm hv (pa1 a1 h1) hn hdb h1, den_un (r := fun x H Q => r [x] H Q) back_O a2 ho⟩
theorem xe_b2 (hc : CallR X (.builtin id) r) (ho : Op2 C W (fun x y H Q => r [x, y] H Q) f2 (kR C)) (ha : XP X C W a ma) (hb : XP X C W b mb) (hg : Gl X x) (hm : X.mg x = none) (hv : bootBuiltins x = some (.builtin id)) (hn : x ≠ "__name__" := by decide) (hdb : (x == ("__debug__" : Str)) = false := by decide)
    (hp : starEach (a :: [b]) X.env = (false, eval a X.env) :: starEach [b] X.env := by rfl) (hpl : (backTo pos (starEach [b] X.env)).any (·.1) = false := by rfl) (h1 : S1 X b := by rfl) :
    XE X C W (.Call (.Name x p) [a, b] [] pos) (eb ma fun x => eb mb fun y => f2 x y) := by
  obtain ⟨ta, a1, a2⟩ := ha.ex
  obtain ⟨tb, b1, b2⟩ := hb.ex
  exact ⟨_, pe_callB hc hg hm hv (pa2 a1 b1 hp h1) hn hdb hp hpl, den_op (r := fun x y H Q => r [x, y] H Q) back_R a2 b2 ho⟩
end
/-- the answers -/
def dLen : P1
  | .str s, Q => s.length ≤ 16777216 ∧ Q (.int s.length)
  | .lst ds, Q => Q (.int ds.length)
  | .tup ds, Q => Q (.int ds.length)
  | .scr ns, Q => Q (.int ns.length)
  | _, _ => False
def dAbs : P1
  | .int i, Q => Q (.int (if i < 0 then -i else i))
  | _, _ => False
def dInt : P1
  | .int i, Q => Q (.int i)
  | .bl b, Q => Q (.int (if b then 1 else 0))
  | _, _ => False
def dBool : P1
  | .int i, Q => Q (.bl (i != 0))
  | .bl b, Q => Q (.bl b)
  | _, _ => False
def dMax : P2
  | .int i, .int j, Q => Q (.int (if j > i then j else i))
  | _, _, _ => False
def dMin : P2
  | .int i, .int j, Q => Q (.int (if j < i then j else i))
  | _, _, _ => False
def blsOf : List D → Option (List Bool)
  | [] => some []
  | .bl b :: r => (blsOf r).map (b :: ·)
  | _ :: _ => none
def intsOf : List D → Option (List Int)
  | [] => some []
  | .int b :: r => (intsOf r).map (b :: ·)
  | _ :: _ => none
def dAny : P1
  | .lst ds, Q => ∃ bs, blsOf ds = some bs ∧ Q (.bl (bs.any id))
  | _, _ => False
def dAll : P1
  | .lst ds, Q => ∃ bs, blsOf ds = some bs ∧ Q (.bl (bs.all id))
  | _, _ => False
theorem RpL.bls {K : PySem.W.Frag} {mg : Str → Option Value} {pa : Option Addr} {F : Hp} : ∀ {ds : List D} {vs : List V} {bs : List Bool}, RpL K mg pa F vs ds → blsOf ds = some bs → vs = bs.map V.bl
  | [], _, _, h, e => by cases h; cases e; rfl
  | d :: ds, _, bs, h, e => by
    cases h with
    | cons r rr =>
      cases d with
      | bl b =>
        cases r
        simp only [blsOf, Option.map_eq_some_iff] at e
        obtain ⟨bs', e1, rfl⟩ := e
        rw [RpL.bls rr e1]
        rfl
      | _ => cases e
theorem RpL.ints {K : PySem.W.Frag} {mg : Str → Option Value} {pa : Option Addr} {F : Hp} : ∀ {ds : List D} {vs : List V} {bs : List Int}, RpL K mg pa F vs ds → intsOf ds = some bs → vs = bs.map V.int
  | [], _, _, h, e => by cases h; cases e; rfl
  | d :: ds, _, bs, h, e => by
    cases h with
    | cons r rr =>
      cases d with
      | int b =>
        cases r
        simp only [intsOf, Option.map_eq_some_iff] at e
        obtain ⟨bs', e1, rfl⟩ := e
        rw [RpL.ints rr e1]
        rfl
      | _ => cases e
theorem o_len : Op1 C W (fun x H Q => ∃ y n, [x] = [y] ∧ LenV C.K y H n ∧ Q (.int n) H) (fun d => eP (dLen d)) (kR C) := op1_flat fun F H x dx Q Qd s rx hp hq => by
  cases dx with
  | str z => obtain rfl := RT.str rx; exact ⟨_, _, rfl, ⟨line_le hp.1, rfl⟩, hq _ _ hp.2 (.int _)⟩
  | lst ds =>
    obtain ⟨a, xs, rfl, ha, r, _⟩ := RT.lst s rx
    exact ⟨_, xs.length, rfl, .inl ⟨xs, .inl (.inl ha), rfl⟩, hq _ _ hp (by rw [RpL.length r]; exact .int _)⟩
  | tup ds =>
    obtain ⟨a, xs, rfl, ha, r⟩ := RT.tup s rx
    exact ⟨_, xs.length, rfl, .inr ⟨xs, ha, rfl⟩, hq _ _ hp (by rw [RpL.length r]; exact .int _)⟩
  | scr ns =>
    obtain ⟨a, rfl, ha⟩ := RT.scr s rx
    exact ⟨_, (ns.map V.int).length, rfl, .inl ⟨_, ha, rfl⟩, hq _ _ hp (by rw [List.length_map]; exact .int _)⟩
  | _ => exact hp.elim
theorem o_abs : Op1 C W (fun x H Q => ∃ i, [x] = [V.int i] ∧ Q (.int (if i < 0 then -i else i)) H) (fun d => eP (dAbs d)) (kR C) := op1_flat fun F H x dx Q Qd s rx hp hq => by
  cases dx with
  | int i => obtain rfl := RT.int rx; exact ⟨i, rfl, hq _ _ hp (.int _)⟩
  | _ => exact hp.elim
theorem o_int1 : Op1 C W (fun x H Q => (∃ i, [x] = [V.int i] ∧ Q (.int i) H) ∨ ∃ k, [x] = [V.bl k] ∧ Q (.int (if k then 1 else 0)) H) (fun d => eP (dInt d)) (kR C) := op1_flat fun F H x dx Q Qd s rx hp hq => by
  cases dx with
  | int i => obtain rfl := RT.int rx; exact .inl ⟨i, rfl, hq _ _ hp (.int _)⟩
  | bl i => obtain rfl := RT.bl rx; exact .inr ⟨i, rfl, hq _ _ hp (.int _)⟩
  | _ => exact hp.elim
theorem o_bool1 : Op1 C W (fun x H Q => (∃ i, [x] = [V.int i] ∧ Q (.bl (i != 0)) H) ∨ ∃ k, [x] = [V.bl k] ∧ Q (.bl k) H) (fun d => eP (dBool d)) (kR C) := op1_flat fun F H x dx Q Qd s rx hp hq => by
  cases dx with
  | int i => obtain rfl := RT.int rx; exact .inl ⟨i, rfl, hq _ _ hp (.bl _)⟩
  | bl i => obtain rfl := RT.bl rx; exact .inr ⟨i, rfl, hq _ _ hp (.bl _)⟩
  | _ => exact hp.elim
theorem o_max : Op2 C W (fun x y H Q => ∃ i j, [x, y] = [V.int i, V.int j] ∧ Q (.int (if j > i then j else i)) H) (fun a b => eP (dMax a b)) (kR C) := op2_flat fun F H x y dx dy Q Qd s rx ry hp hq => by
  cases dx with
  | int i => cases dy with
    | int j => obtain rfl := RT.int rx; obtain rfl := RT.int ry; exact ⟨i, j, rfl, hq _ _ hp (.int _)⟩
    | _ => exact hp.elim
  | _ => exact hp.elim
theorem o_min : Op2 C W (fun x y H Q => ∃ i j, [x, y] = [V.int i, V.int j] ∧ Q (.int (if j < i then j else i)) H) (fun a b => eP (dMin a b)) (kR C) := op2_flat fun F H x y dx dy Q Qd s rx ry hp hq => by
  cases dx with
  | int i => cases dy with
    | int j => obtain rfl := RT.int rx; obtain rfl := RT.int ry; exact ⟨i, j, rfl, hq _ _ hp (.int _)⟩
    | _ => exact hp.elim
  | _ => exact hp.elim
theorem o_any : Op1 C W (fun x H Q => rAny C.K [x] H Q) (fun d => eP (dAny d)) (kR C) := op1_flat fun F H x dx Q Qd s rx hp hq => by
  cases dx with
  | lst ds =>
    obtain ⟨bs, e, q⟩ := hp
    obtain ⟨a, xs, rfl, ha, r, _⟩ := RT.lst s rx
    exact ⟨a, bs, rfl, .inl (.inl (by rw [← RpL.bls r e]; exact ha)), hq _ _ q (.bl _)⟩
  | _ => exact hp.elim
theorem o_all : Op1 C W (fun x H Q => rAll C.K [x] H Q) (fun d => eP (dAll d)) (kR C) := op1_flat fun F H x dx Q Qd s rx hp hq => by
  cases dx with
  | lst ds =>
    obtain ⟨bs, e, q⟩ := hp
    obtain ⟨a, xs, rfl, ha, r, _⟩ := RT.lst s rx
    exact ⟨a, bs, rfl, .inl (.inl (by rw [← RpL.bls r e]; exact ha)), hq _ _ q (.bl _)⟩
  | _ => exact hp.elim
/-- list(x), tuple(x) -/
def fList : D → E (List D)
  | .lst ds => ep ds
  | .tup ds => ep ds
  | _ => eStuck
def fTuple : D → E D
  | .lst ds => ep (.tup ds)
  | .tup ds => ep (.tup ds)
  | _ => eStuck
theorem o_list : Op1 C W (fun x H Q => ∃ p ys, [x] = [V.ref p] ∧ (SqL C.K H p ys ∨ SqT C.K H p ys) ∧ ∀ l, H l = none → Q (.ref l) (upd H l (.lst ys))) fList (RO C) := fun σ ρ F H z x dx Qd Xd Q S rx hm hq hx => by
  cases dx with
  | lst ds =>
    obtain ⟨a, xs, rfl, ha, r, _⟩ := RT.lst S.sub rx
    exact ⟨a, xs, rfl, .inl (.inl (.inl ha)), fun p hp => S.newL hp r hm hq⟩
  | tup ds =>
    obtain ⟨a, xs, rfl, ha, r⟩ := RT.tup S.sub rx
    exact ⟨a, xs, rfl, .inr ha, fun p hp => S.newL hp r hm hq⟩
  | _ => exact False.elim hm
theorem o_tuple : Op1 C W (fun x H Q => ∃ p ys, [x] = [V.ref p] ∧ ((SqL C.K H p ys ∧ ∀ l, H l = none → Q (.ref l) (upd H l (.tup ys))) ∨ (SqT C.K H p ys ∧ Q (.ref p) H))) fTuple (kR C) := fun σ ρ F H z x dx Qd Xd Q S rx hm hq hx => by
  cases dx with
  | lst ds =>
    obtain ⟨a, xs, rfl, ha, r, _⟩ := RT.lst S.sub rx
    exact ⟨a, xs, rfl, .inl ⟨.inl (.inl ha), fun p hp => S.newT hp r hm hq⟩⟩
  | tup ds =>
    have rx := rx.fro fun _ z => z
    cases rx with | tup q r =>
    exact ⟨_, _, rfl, .inr ⟨sqtSub S.sub q, S.same (R := kR C) hm (.tup q r) hq⟩⟩
  | _ => exact False.elim hm

/-! ## repr -/
mutual
theorem py_noDict : ∀ d : D, d.py.hasDict = false
  | .non => rfl
  | .bl _ => rfl
  | .int _ => rfl
  | .str _ => rfl
  | .lst xs => pyL_noDict xs
  | .tup xs => pyL_noDict xs
  | .cel => rfl
  | .ins _ _ _ => rfl
  | .dic _ _ => rfl
  | .exn _ _ _ _ => rfl
  | .scr _ => rfl
  | .mc _ => rfl
theorem pyL_noDict : ∀ ds : List D, PyData.hasDictAll (pyL ds) = false
  | [] => rfl
  | d :: r => by
    show (d.py.hasDict || PyData.hasDictAll (pyL r)) = false
    rw [py_noDict d, pyL_noDict r]
    rfl
end
def reprOk (d : D) : Prop := d.isPy = true ∧ d.py.showable = true ∧ d.py.depth ≤ 60 ∧ d.py.shown.length ≤ 16777216
def dRepr : P1
  | .lst ds, Q => reprOk (.lst ds) ∧ Q (.str (D.lst ds).py.shown)
  | .tup ds, Q => reprOk (.tup ds) ∧ Q (.str (D.tup ds).py.shown)
  | .int i, Q => i.natAbs.log2 < 1920 ∧ Q (.str (toString i))
  | _, _ => False
def rRepr (K : PySem.W.Frag) : List V → Hp → VK → Prop := fun xs H Q => (∃ i, xs = [V.int i] ∧ i.natAbs.log2 < 1920 ∧ Q (.str (toString i)) H) ∨
  ∃ (a : Addr) (d : PyData), xs = [V.ref a] ∧ Dp K H (.ref a) d ∧ d.hasDict = false ∧ d.showable = true ∧ d.depth ≤ 60 ∧ d.shown.length ≤ sizeLine ∧ Q (.str d.shown) H
theorem call_reprD (hg : X.A.guards = some []) (hu : X.A.units + 65 < cLine) : CallR X (.builtin "repr") (rRepr X.K) := by
  intro pins s σ H xs us Q I r h
  rcases h with ⟨i, rfl, h1, q⟩ | ⟨a, d, rfl, hd, hn, hs, hp, hz, q⟩
  · exact SkE.call_repr_int pins s σ H _ us Q I r ⟨i, rfl, h1, q⟩
  · cases r with
    | cons ru rn =>
      cases rn
      obtain rfl : _ = Value.ref a := ru
      obtain ⟨as, rd⟩ := Dp.reads I d (.ref a) (.ref a) hd rfl
      exact repr_of_reads' rd hs (PyData.noDict_hsm hn) hg (by omega) (fun _ _ e => e) (fun h' u tk hk => ⟨.str d.shown, H, I.kept (t' := tk) hk, ⟨u, rfl⟩, q⟩) hz
theorem o_repr : Op1 C W (fun x H Q => rRepr C.K [x] H Q) (fun d => eP (dRepr d)) (kR C) := op1_flat fun F H x dx Q Qd s rx hp hq => by
  cases dx with
  | int i => obtain rfl := RT.int rx; exact .inl ⟨i, rfl, hp.1, hq _ _ hp.2 (.str _)⟩
  | lst ds =>
    obtain ⟨⟨h1, h2, h3, h4⟩, q⟩ := hp
    have dp := RT.dp s rx h1
    obtain ⟨a, xs, rfl, _⟩ := RT.lst s rx
    exact .inr ⟨a, _, rfl, dp, py_noDict _, h2, h3, line_le h4, hq _ _ q (.str _)⟩
  | tup ds =>
    obtain ⟨⟨h1, h2, h3, h4⟩, q⟩ := hp
    have dp := RT.dp s rx h1
    obtain ⟨a, xs, rfl, _⟩ := RT.tup s rx
    exact .inr ⟨a, _, rfl, dp, py_noDict _, h2, h3, line_le h4, hq _ _ q (.str _)⟩
  | _ => exact hp.elim

/-! ### the calls by name -/
section
variable {p : Pos}
theorem xe_len (hK : X.K = C.K) (hg : Gl X "len") (hm : X.mg "len" = none) (ha : XP X C W a ma) (h1 : S1 X a := by rfl) : XE X C W (.Call (.Name "len" p) [a] [] pos) (eb ma fun d => eP (dLen d)) := xe_b1 call_len (by rw [hK]; exact o_len) ha hg hm rfl (by decide) (by decide) h1
theorem xe_abs (hg : Gl X "abs") (hm : X.mg "abs" = none) (ha : XP X C W a ma) (h1 : S1 X a := by rfl) : XE X C W (.Call (.Name "abs" p) [a] [] pos) (eb ma fun d => eP (dAbs d)) := xe_b1 call_abs o_abs ha hg hm rfl (by decide) (by decide) h1
theorem xe_int1 (hg : Gl X "int") (hm : X.mg "int" = none) (ha : XP X C W a ma) (h1 : S1 X a := by rfl) : XE X C W (.Call (.Name "int" p) [a] [] pos) (eb ma fun d => eP (dInt d)) := xe_t1 call_int1 o_int1 ha hg hm rfl (by decide) (by decide) h1
theorem xe_bool1 (hg : Gl X "bool") (hm : X.mg "bool" = none) (ha : XP X C W a ma) (h1 : S1 X a := by rfl) : XE X C W (.Call (.Name "bool" p) [a] [] pos) (eb ma fun d => eP (dBool d)) := xe_t1 call_bool1 o_bool1 ha hg hm rfl (by decide) (by decide) h1
theorem xe_any (kx : Kx X C W k) (hg : Gl X "any") (hm : X.mg "any" = none) (ha : XP X C W a ma) (h1 : S1 X a := by rfl) : XE X C W (.Call (.Name "any" p) [a] [] pos) (eb ma fun d => eP (dAny d)) := xe_b1 (cr_any kx.calm) (by rw [kx.hK]; exact o_any) ha hg hm rfl (by decide) (by decide) h1
theorem xe_all (kx : Kx X C W k) (hg : Gl X "all") (hm : X.mg "all" = none) (ha : XP X C W a ma) (h1 : S1 X a := by rfl) : XE X C W (.Call (.Name "all" p) [a] [] pos) (eb ma fun d => eP (dAll d)) := xe_b1 (cr_all kx.calm) (by rw [kx.hK]; exact o_all) ha hg hm rfl (by decide) (by decide) h1
theorem xe_repr (kx : Kx X C W k) (hg : Gl X "repr") (hm : X.mg "repr" = none) (ha : XP X C W a ma) (h1 : S1 X a := by rfl) : XE X C W (.Call (.Name "repr" p) [a] [] pos) (eb ma fun d => eP (dRepr d)) := xe_b1 (call_reprD kx.gu kx.hu) (by rw [kx.hK]; exact o_repr) ha hg hm rfl (by decide) (by decide) h1
theorem xo_list (kx : Kx X C W k) (hg : Gl X "list") (hm : X.mg "list" = none) (ha : XP X C W a ma) (h1 : S1 X a := by rfl) : XO X C W (.Call (.Name "list" p) [a] [] pos) (eb ma fList) := xo_t1 call_list_of (by rw [kx.hK]; exact o_list) ha hg hm rfl (by decide) (by decide) h1
theorem xe_tuple (kx : Kx X C W k) (hg : Gl X "tuple") (hm : X.mg "tuple" = none) (ha : XP X C W a ma) (h1 : S1 X a := by rfl) : XE X C W (.Call (.Name "tuple" p) [a] [] pos) (eb ma fTuple) := xe_t1 call_tuple_of (by rw [kx.hK]; exact o_tuple) ha hg hm rfl (by decide) (by decide) h1
theorem xe_max2 (kx : Kx X C W k) (hg : Gl X "max") (hm : X.mg "max" = none) (ha : XP X C W a ma) (hb : XP X C W b mb) (hp : starEach (a :: [b]) X.env = (false, eval a X.env) :: starEach [b] X.env := by rfl) (hpl : (backTo pos (starEach [b] X.env)).any (·.1) = false := by rfl) (h1 : S1 X b := by rfl) :
    XE X C W (.Call (.Name "max" p) [a, b] [] pos) (eb ma fun x => eb mb fun y => eP (dMax x y)) := xe_b2 (call_max2 kx.calm) o_max ha hb hg hm rfl (by decide) (by decide) hp hpl h1
theorem xe_min2 (kx : Kx X C W k) (hg : Gl X "min") (hm : X.mg "min" = none) (ha : XP X C W a ma) (hb : XP X C W b mb) (hp : starEach (a :: [b]) X.env = (false, eval a X.env) :: starEach [b] X.env := by rfl) (hpl : (backTo pos (starEach [b] X.env)).any (·.1) = false := by rfl) (h1 : S1 X b := by rfl) :
    XE X C W (.Call (.Name "min" p) [a, b] [] pos) (eb ma fun x => eb mb fun y => eP (dMin x y)) := xe_b2 (call_min2 kx.calm) o_min ha hb hg hm rfl (by decide) (by decide) hp hpl h1
end
end
end DL

namespace DL
open PySem PySem.Spec PyProof.Rows L2

/-! ## what a loop walks -/
structure IterOk (K : PySem.W.Frag) (mg : Str → Option Value) (pa : Option Addr) (J : It) (ds : List D) (F : Hp) : Prop where
  stp : ∀ (C : CC) (σ : L2.St) (ρ : Rho) (F2 H : Hp) (z : Zs), C.K = K → C.mg = mg → C.pa = pa → StOk C σ ρ F2 H z → Same F F2 → ∀ i, ds[i]? = none → J.stop i H
  go : ∀ (C : CC) (σ : L2.St) (ρ : Rho) (F2 H : Hp) (z : Zs), C.K = K → C.mg = mg → C.pa = pa → StOk C σ ρ F2 H z → Same F F2 → ∀ i d, ds[i]? = some d → J.go i H ∧
    ∀ x H', J.yld i H x H' → ∃ F3, Same F2 F3 ∧ StOk C σ ρ F3 H' z ∧ Keep C.pa F2 F3 H H' ∧ C.R F3 x d
def DenI (C : CC) (W : WX) (t : TI) (m : E (List D)) : Prop :=
  ∀ (σ : L2.St) (ρ : Rho) (F H : Hp) (z : Zs) (Qd : List D → Rho → Zs → Prop) (Xd : Er → Rho → Zs → Prop) (R : It → Hp → Prop), StOk C σ ρ F H z → m ρ Qd Xd z →
    (∀ ds ρ' z' J F' H', Qd ds ρ' z' → StOk C σ ρ' F' H' z' → Same F F' → Keep C.pa F F' H H' → Ole ρ' ρ → IterOk C.K C.mg C.pa J ds F' → R J H') →
    (∀ e ρ' z' cls dd F' H', Xd e ρ' z' → StOk C σ ρ' F' H' z' → Same F F' → ExR C F' H' e cls dd → W cls dd σ H') → t σ H R
structure XI (X : Cx) (C : CC) (W : WX) (tg e : Expr) (m : E (List D)) : Prop where
  ex : ∃ t, PI X tg e t ∧ DenI C W t m
section
variable {K : PySem.W.Frag} {mg : Str → Option Value} {pa : Option Addr} {F : Hp}
theorem itl_ok {a : Addr} {xs : List V} {ds : List D} (h : F a = some (.lst xs)) (r : RpL K mg pa F xs ds) : IterOk K mg pa (Itl K a) ds F := by
  have hl := RpL.length r
  constructor
  · intro C σ ρ F2 H z eK em ep S ff i hi
    refine ⟨xs, .inl (.inl (S.sub _ _ (ff _ _ h) ngL)), ?_⟩
    rw [List.getElem?_eq_none_iff] at hi
    omega
  · intro C σ ρ F2 H z eK em ep S ff i d hi
    obtain ⟨v, e1, r1⟩ := RpL.get r hi
    have sq : SqL K H a xs := .inl (.inl (S.sub _ _ (ff _ _ h) ngL))
    refine ⟨⟨xs, v, sq, e1⟩, fun x H' y => ?_⟩
    obtain ⟨rfl, y⟩ := y
    have e2 := y xs sq
    rw [e1] at e2
    cases e2
    subst eK em ep
    exact ⟨F2, Same.refl F2, S, Keep.refl, Rp.mono ff r1⟩
theorem itt_ok {a : Addr} {xs : List V} {ds : List D} (h : SqT K F a xs) (r : RpL K mg pa F xs ds) : IterOk K mg pa (Itt K a) ds F := by
  have hl := RpL.length r
  constructor
  · intro C σ ρ F2 H z eK em ep S ff i hi
    refine ⟨xs, sqtSub S.sub (sqtSame ff h), ?_⟩
    rw [List.getElem?_eq_none_iff] at hi
    omega
  · intro C σ ρ F2 H z eK em ep S ff i d hi
    obtain ⟨v, e1, r1⟩ := RpL.get r hi
    have sq : SqT K H a xs := sqtSub S.sub (sqtSame ff h)
    refine ⟨⟨xs, v, sq, e1⟩, fun x H' y => ?_⟩
    obtain ⟨rfl, y⟩ := y
    have e2 := y xs sq
    rw [e1] at e2
    cases e2
    subst eK em ep
    exact ⟨F2, Same.refl F2, S, Keep.refl, Rp.mono ff r1⟩
def rngD (lo : Int) : Nat → List D
  | 0 => []
  | n + 1 => .int lo :: rngD (lo + 1) n
theorem rngD_get : ∀ (n : Nat) (lo : Int) (i : Nat), (rngD lo n)[i]? = if i < n then some (.int (lo + i)) else none
  | 0, lo, i => by simp [rngD]
  | n + 1, lo, 0 => by simp [rngD]
  | n + 1, lo, i + 1 => by
    show (rngD (lo + 1) n)[i]? = _
    rw [rngD_get n (lo + 1) i]
    by_cases h : i < n
    · rw [if_pos h, if_pos (by omega)]
      congr 2
      omega
    · rw [if_neg h, if_neg (by omega)]
theorem itr_ok {lo : Int} {n : Nat} : IterOk K mg pa (Itr lo n) (rngD lo n) F := by
  constructor
  · intro C σ ρ F2 H z eK em ep S ff i hi
    rw [rngD_get] at hi
    split at hi
    · cases hi
    · show n ≤ i
      omega
  · intro C σ ρ F2 H z eK em ep S ff i d hi
    rw [rngD_get] at hi
    split at hi
    · rename_i hlt
      cases hi
      refine ⟨hlt, fun x H' y => ?_⟩
      obtain ⟨rfl, rfl⟩ := y
      exact ⟨F2, Same.refl F2, S, Keep.refl, .int _⟩
    · cases hi
def enumD : Nat → List D → List D
  | _, [] => []
  | i, d :: r => .tup [.int i, d] :: enumD (i + 1) r
theorem enumD_get : ∀ (ds : List D) (k i : Nat), (enumD k ds)[i]? = (ds[i]?).map fun d => .tup [.int (k + i : Nat), d]
  | [], k, i => by simp [enumD]
  | d :: r, k, 0 => by simp [enumD]
  | d :: r, k, i + 1 => by
    show (enumD (k + 1) r)[i]? = _
    rw [enumD_get r (k + 1) i]
    have e : k + 1 + i = k + (i + 1) := by omega
    rw [e]
    rfl
theorem StOk.newTup {C : CC} {σ : L2.St} {ρ : Rho} {F H : Hp} {z : Zs} {p : Addr} {xs : List V} {ds : List D} (S : StOk C σ ρ F H z) (h : H p = none) (r : C.RL F xs ds) :
    ∃ F3, Same F F3 ∧ StOk C σ ρ F3 (upd H p (.tup xs)) z ∧ Keep C.pa F F3 H (upd H p (.tup xs)) ∧ C.R F3 (.ref p) (.tup ds) :=
  ⟨_, Same.new (S.free h), S.newF h ngT, Keep.newF h, .tup (.inl (.inl upd_same)) (RpL.mono (Same.new (S.free h)) r)⟩
theorem ite_ok {a : Addr} {xs : List V} {ds : List D} (h : F a = some (.lst xs)) (r : RpL K mg pa F xs ds) : IterOk K mg pa (Ite K a) (enumD 0 ds) F := by
  have hl := RpL.length r
  constructor
  · intro C σ ρ F2 H z eK em ep S ff i hi
    refine ⟨xs, .inl (.inl (S.sub _ _ (ff _ _ h) ngL)), ?_⟩
    rw [enumD_get, Option.map_eq_none_iff, List.getElem?_eq_none_iff] at hi
    omega
  · intro C σ ρ F2 H z eK em ep S ff i d hi
    rw [enumD_get, Option.map_eq_some_iff] at hi
    obtain ⟨d0, hi, rfl⟩ := hi
    obtain ⟨v, e1, r1⟩ := RpL.get r hi
    have sq : SqL K H a xs := .inl (.inl (S.sub _ _ (ff _ _ h) ngL))
    refine ⟨⟨xs, v, sq, e1⟩, fun x H' y => ?_⟩
    obtain ⟨T, u, rfl, hT, rfl, y⟩ := y
    have e2 := y xs sq
    rw [e1] at e2
    cases e2
    subst eK em ep
    have e3 : (0 + i : Nat) = i := by omega
    rw [e3]
    exact S.newTup hT (.cons (.int _) (.cons (Rp.mono ff r1) .nil))
def zipD : List D → List D → List D
  | a :: r, b :: q => .tup [a, b] :: zipD r q
  | _, _ => []
theorem zipD_none : ∀ (as bs : List D) (i : Nat), (zipD as bs)[i]? = none → as.length ≤ i ∨ bs.length ≤ i
  | [], bs, i, _ => .inl (Nat.zero_le _)
  | _ :: _, [], i, _ => .inr (Nat.zero_le _)
  | a :: as, b :: bs, 0, h => by simp [zipD] at h
  | a :: as, b :: bs, i + 1, h => by
    have := zipD_none as bs i (by simpa [zipD] using h)
    simp only [List.length_cons]
    omega
theorem zipD_some : ∀ (as bs : List D) (i : Nat) (d : D), (zipD as bs)[i]? = some d → ∃ a b, as[i]? = some a ∧ bs[i]? = some b ∧ d = .tup [a, b]
  | [], bs, i, d, h => by simp [zipD] at h
  | _ :: _, [], i, d, h => by simp [zipD] at h
  | a :: as, b :: bs, 0, d, h => by
    simp [zipD] at h
    exact ⟨a, b, rfl, rfl, h.symm⟩
  | a :: as, b :: bs, i + 1, d, h => by simpa using zipD_some as bs i d (by simpa [zipD] using h)
theorem itz_ok {a b : Addr} {xs ys : List V} {ds es : List D} (h : F a = some (.lst xs)) (r : RpL K mg pa F xs ds) (h2 : F b = some (.lst ys)) (r2 : RpL K mg pa F ys es) : IterOk K mg pa (Itz K a b) (zipD ds es) F := by
  have hl := RpL.length r
  have hl2 := RpL.length r2
  constructor
  · intro C σ ρ F2 H z eK em ep S ff i hi
    refine ⟨xs, ys, .inl (.inl (S.sub _ _ (ff _ _ h) ngL)), .inl (.inl (S.sub _ _ (ff _ _ h2) ngL)), ?_⟩
    rcases zipD_none _ _ _ hi with q | q
    · left; omega
    · right; omega
  · intro C σ ρ F2 H z eK em ep S ff i d hi
    obtain ⟨d1, d2, hi1, hi2, rfl⟩ := zipD_some _ _ _ _ hi
    obtain ⟨v, e1, r1⟩ := RpL.get r hi1
    obtain ⟨w, f1, s1⟩ := RpL.get r2 hi2
    have sq : SqL K H a xs := .inl (.inl (S.sub _ _ (ff _ _ h) ngL))
    have sq2 : SqL K H b ys := .inl (.inl (S.sub _ _ (ff _ _ h2) ngL))
    refine ⟨⟨xs, ys, v, w, sq, sq2, e1, f1⟩, fun x H' y => ?_⟩
    obtain ⟨T, u, u2, rfl, hT, rfl, y, y2⟩ := y
    have e2 := y xs sq
    rw [e1] at e2
    cases e2
    have e3 := y2 ys sq2
    rw [f1] at e3
    cases e3
    subst eK em ep
    exact S.newTup hT (.cons (Rp.mono ff r1) (.cons (Rp.mono ff s1) .nil))
end

section
variable {X : Cx} {C : CC} {W : WX} {e a b c tg iter l : Expr} {es body : List Stmt} {m ma mb mc : E D} {pos p tpos : Pos} {k : Nat} {elts : List Expr} {kk : Nat}
/-! ### lists, tuples -/
def iSeq (K : PySem.W.Frag) (tl : TE) : TI := fun σ H R => tl σ H fun x H1 => ∃ a, x = V.ref a ∧ (((∃ xs, SqL K H1 a xs) ∧ R (Itl K a) H1) ∨ ((∃ xs, SqT K H1 a xs) ∧ R (Itt K a) H1))
theorem pi_seq {tl : TE} (hl : PE X l tl) : PI X tg l (iSeq X.K tl) := by
  constructor
  intro pins s σ H R I h
  have step := hl.run pins s σ H _ I h
  refine thn step ?_
  rintro v s1 ⟨x, H1, I1, r1, a, ex, q⟩
  subst ex
  obtain rfl : v = Value.ref a := r1
  rcases q with ⟨⟨xs, hs⟩, q⟩ | ⟨⟨xs, hs⟩, q⟩
  · obtain ⟨its, rv, p, _⟩ := I1.list hs
    apply wpAny_pyIter_list p.isList
    have ig := I1.kept (t' := s1.toks) (fun b o e => Heap.get?_push_of_some { cls := .type "list_iterator", data := .fields #[.ref a, .int 0 0] } e)
    refine ⟨_, [s1.heap.objs.size], _, _, H1, rfl, ig, turn_list a _, ?_, ?_, q⟩
    · exact ⟨_, Heap.get?_push_size _ rfl, rfl, rfl⟩
    · intro b hb
      rw [List.mem_singleton] at hb
      rw [hb]
      exact I1.fpOk (Nat.le_refl _) I1.fresh
  · obtain ⟨its, rv, p, _⟩ := I1.tuple hs
    apply wpAny_pyIter_tuple (items := its.toArray) p
    have ig := I1.kept (t' := s1.toks) (fun b o e => Heap.get?_push_of_some { cls := .type "tuple_iterator", data := .fields #[.ref a, .int 0 0] } e)
    refine ⟨_, [s1.heap.objs.size], _, _, H1, rfl, ig, turn_tuple a _, ?_, ?_, q⟩
    · exact ⟨_, Heap.get?_push_size _ rfl, rfl, rfl⟩
    · intro b hb
      rw [List.mem_singleton] at hb
      rw [hb]
      exact I1.fpOk (Nat.le_refl _) I1.fresh
def fSeqI : D → E (List D)
  | .lst ds => ep ds
  | .tup ds => ep ds
  | _ => eStuck
theorem xi_seq (hK : X.K = C.K) (h : XE X C W l m) : XI X C W tg l (eb m fSeqI) := by
  obtain ⟨t, h1, h2⟩ := h.ex
  refine ⟨_, pi_seq h1, fun σ ρ F H z Qd Xd R S hm hq hx => h2 σ ρ F H z _ Xd _ S hm (fun d ρ1 z1 v F1 H1 q1 S1 ff1 k1 o1 r1 => ?_) hx⟩
  rw [hK]
  cases d with
  | lst ds =>
    cases r1 with | lst n q r =>
    exact ⟨_, rfl, .inl ⟨⟨_, .inl (.inl (S1.sub _ _ q ngL))⟩, hq _ _ _ _ _ _ q1 S1 ff1 k1 o1 (itl_ok q r)⟩⟩
  | tup ds =>
    cases r1 with | tup q r =>
    exact ⟨_, rfl, .inr ⟨⟨_, sqtSub S1.sub q⟩, hq _ _ _ _ _ _ q1 S1 ff1 k1 o1 (itt_ok q r)⟩⟩
  | _ => exact False.elim q1
/-! ### range -/
def fRng1 : List D → E (List D)
  | [.int j] => fun ρ Q _ z => (-(2 ^ 62) ≤ j ∧ j < 2 ^ 62) ∧ Q (rngD 0 j.toNat) ρ z
  | _ => eStuck
def fRng2 : List D → E (List D)
  | [.int i, .int j] => fun ρ Q _ z => (-(2 ^ 62) ≤ i ∧ i < 2 ^ 62 ∧ -(2 ^ 62) ≤ j ∧ j < 2 ^ 62) ∧ Q (rngD i (j - i).toNat) ρ z
  | _ => eStuck
theorem xi_range1 {ms : E (List D)} (ha : XA X C W [a] ms) (hg : Gl X "range") (hm : X.mg "range" = none) (hs : starEach [a] X.env = [(false, eval a X.env)] := by rfl) : XI X C W tg (.Call (.Name "range" p) [a] [] pos) (eb ms fRng1) := by
  obtain ⟨t, h1, h2⟩ := ha.ex
  refine ⟨_, pi_range1 hg hm h1 hs, fun σ ρ F H z Qd Xd R S hm hq hx => h2 σ ρ F H z _ Xd _ S hm (fun ds ρ1 z1 vs F1 H1 q1 S1 ff1 k1 o1 r1 => ?_) hx⟩
  unfold fRng1 at q1
  split at q1
  · cases r1 with | cons r rr =>
    cases rr
    cases r
    exact ⟨_, rfl, q1.1.1, q1.1.2, hq _ _ _ _ _ _ q1.2 S1 ff1 k1 o1 itr_ok⟩
  · exact False.elim q1
theorem xi_range2 {ms : E (List D)} (ha : XA X C W [a, b] ms) (hg : Gl X "range") (hm : X.mg "range" = none) (hs : starEach [a, b] X.env = [(false, eval a X.env), (false, eval b X.env)] := by rfl) (hs2 : starEach [b] X.env = [(false, eval b X.env)] := by rfl) :
    XI X C W tg (.Call (.Name "range" p) [a, b] [] pos) (eb ms fRng2) := by
  obtain ⟨t, h1, h2⟩ := ha.ex
  refine ⟨_, pi_range2 hg hm h1 hs hs2, fun σ ρ F H z Qd Xd R S hm hq hx => h2 σ ρ F H z _ Xd _ S hm (fun ds ρ1 z1 vs F1 H1 q1 S1 ff1 k1 o1 r1 => ?_) hx⟩
  unfold fRng2 at q1
  split at q1
  · cases r1 with | cons r rr =>
    cases rr with | cons r' rr =>
    cases rr
    cases r
    cases r'
    exact ⟨_, _, rfl, q1.1, hq _ _ _ _ _ _ q1.2 S1 ff1 k1 o1 itr_ok⟩
  · exact False.elim q1
/-! ### enumerate, zip -/
def fEnum : List D → E (List D)
  | [.lst ds] => ep (enumD 0 ds)
  | _ => eStuck
def fZip : List D → E (List D)
  | [.lst ds, .lst es] => ep (zipD ds es)
  | _ => eStuck
theorem xi_enum {ms : E (List D)} (hK : X.K = C.K) (ha : XA X C W [e] ms) (hg : Gl X "enumerate") (hm : X.mg "enumerate" = none) (hs : starEach [e] X.env = [(false, eval e X.env)] := by rfl) :
    XI X C W (.Tuple elts kk tpos) (.Call (.Name "enumerate" p) [e] [] pos) (eb ms fEnum) := by
  obtain ⟨t, h1, h2⟩ := ha.ex
  refine ⟨_, pi_enum hg hm h1 hs, fun σ ρ F H z Qd Xd R S hm hq hx => h2 σ ρ F H z _ Xd _ S hm (fun ds ρ1 z1 vs F1 H1 q1 S1 ff1 k1 o1 r1 => ?_) hx⟩
  unfold fEnum at q1
  rw [hK]
  split at q1
  · cases r1 with | cons r rr =>
    cases rr
    cases r with | lst n q r =>
    exact ⟨_, _, rfl, .inl (.inl (S1.sub _ _ q ngL)), hq _ _ _ _ _ _ q1 S1 ff1 k1 o1 (ite_ok q r)⟩
  · exact False.elim q1
theorem xi_zip {ms : E (List D)} (hK : X.K = C.K) (ha : XA X C W [a, b] ms) (hg : Gl X "zip") (hm : X.mg "zip" = none) (hs : starEach [a, b] X.env = (false, eval a X.env) :: starEach [b] X.env := by rfl) (hpl : (backTo pos (starEach [b] X.env)).any (·.1) = false := by rfl) :
    XI X C W (.Tuple elts kk tpos) (.Call (.Name "zip" p) [a, b] [] pos) (eb ms fZip) := by
  obtain ⟨t, h1, h2⟩ := ha.ex
  refine ⟨_, pi_zip hg hm h1 hs hpl, fun σ ρ F H z Qd Xd R S hm hq hx => h2 σ ρ F H z _ Xd _ S hm (fun ds ρ1 z1 vs F1 H1 q1 S1 ff1 k1 o1 r1 => ?_) hx⟩
  unfold fZip at q1
  rw [hK]
  split at q1
  · cases r1 with | cons r rr =>
    cases rr with | cons r' rr =>
    cases rr
    cases r with | lst n q r =>
    cases r' with | lst n' q' r' =>
    exact ⟨_, _, _, _, rfl, .inl (.inl (S1.sub _ _ q ngL)), .inl (.inl (S1.sub _ _ q' ngL)), hq _ _ _ _ _ _ q1 S1 ff1 k1 o1 (itz_ok q r q' r')⟩
  · exact False.elim q1

/-! ## for, while -/
def forK (rest : E Fl) : Fl → E Fl
  | .nx => rest
  | .ct => rest
  | .bk => ep .nx
  | .ret d => ep (.ret d)
  | .retO ds => ep (.retO ds)
def forL (tg : Tg) (mb : E Fl) : List D → E Fl
  | [] => ep .nx
  | d :: ds => fun ρ Q X z => tg d ρ fun ρ1 => mb ρ1 (fun fl ρ2 z2 => forK (forL tg mb ds) fl ρ2 Q X z2) X z
def sFor (mi : E (List D)) (tg : Tg) (mb : E Fl) : E Fl := eb mi fun ds => forL tg mb ds
theorem xs_for {mi : E (List D)} {mbody : E Fl} {is : List Nat} {g : Tg} {body : List Stmt} (kx : Kx X C W k) (hi : XI X C W tg iter mi) (hg : XG X C tg is g) (hb : XSs X C W body mbody)
    (hs : ∀ x, foldedSetIterable iter X.env x = pure x := by intro _; rfl) : XS X C W (.For tg iter body [] pos) (sFor mi g mbody) := by
  obtain ⟨wi, i1, i2⟩ := hi.ex
  obtain ⟨gg, g1, g2⟩ := hg.ex
  obtain ⟨tb, b1, b2⟩ := hb.ex
  refine ⟨_, ps_for kx.po kx.calm i1 g1 b1 hs, fun σ ρ F H z Qd Xd Dn S hm hq hx => ?_⟩
  refine i2 σ ρ F H z _ Xd _ S hm (fun ds ρ1 z1 J F1 H1 q1 S1 ff1 k1 o1 it => ?_) (fun e ρ' z' cls dd F' H' q S' ff r => hx e ρ' z' cls dd σ F' H' q S' ff r)
  refine ⟨fun i m σ' H' => m = ds.length - i ∧ i ≤ ds.length ∧ ∃ ρ' F' z', StOk C σ' ρ' F' H' z' ∧ Same F1 F' ∧ forL g mbody (ds.drop i) ρ' Qd Xd z', ⟨ds.length, by simp, Nat.zero_le _, ρ1, F1, z1, S1, Same.refl _, q1⟩, ?_⟩
  rintro i m σ2 H2 ⟨rfl, hi, ρ2, F2, z2, S2, ff2, q2⟩
  cases hd : ds[i]? with
  | none =>
    have hl : ds.length ≤ i := List.getElem?_eq_none_iff.mp hd
    rw [List.drop_eq_nil_of_le hl] at q2
    exact .inl ⟨it.stp C σ2 ρ2 F2 H2 z2 rfl rfl rfl S2 ff2 i hd, hq _ _ _ _ _ q2 (ff1.trans ff2) σ2 S2⟩
  | some d =>
    obtain ⟨hlt, hget⟩ := List.getElem?_eq_some_iff.mp hd
    rw [List.drop_eq_getElem_cons hlt, hget] at q2
    obtain ⟨go, yl⟩ := it.go C σ2 ρ2 F2 H2 z2 rfl rfl rfl S2 ff2 i d hd
    refine .inr ⟨go, fun σ' H' => ∃ ρ' F' z', StOk C σ' ρ' F' H' z' ∧ Same F1 F' ∧ forL g mbody (ds.drop (i + 1)) ρ' Qd Xd z', fun σ' H' w => ⟨_, by omega, rfl, hlt, w⟩, fun x H3 y => ?_⟩
    obtain ⟨F3, ff3, S3, k3, r3⟩ := yl x H3 y
    refine g2 σ2 ρ2 F3 H3 z2 x d _ _ S3 r3 q2 (fun σ4 ρ4 q4 S4 _ _ => ?_)
    refine b2 σ4 ρ4 F3 H3 z2 _ Xd _ S4 q4 (fun fl ρ5 z5 F5 H5 q5 ff5 => ?_) (fun e ρ' z' cls dd σ' F' H' q S' ff r => hx e ρ' z' cls dd σ' F' H' q S' (((ff1.trans ff2).trans ff3).trans ff) r)
    have ffa : Same F F5 := ((ff1.trans ff2).trans ff3).trans ff5
    cases fl with
    | nx => exact fun σ5 S5 => ⟨ρ5, F5, z5, S5, (ff2.trans ff3).trans ff5, q5⟩
    | ct => exact fun σ5 S5 => ⟨ρ5, F5, z5, S5, (ff2.trans ff3).trans ff5, q5⟩
    | bk => exact fun σ5 S5 => hq .nx ρ5 z5 F5 H5 q5 ffa σ5 S5
    | ret d => exact hq (.ret d) ρ5 z5 F5 H5 q5 ffa
    | retO d => exact hq (.retO d) ρ5 z5 F5 H5 q5 ffa
def whL (mt : E Bool) (mb : E Fl) : Nat → E Fl
  | 0 => eStuck
  | n + 1 => eb mt fun t => if t = true then (fun ρ Q X z => mb ρ (fun fl ρ2 z2 => forK (whL mt mb n) fl ρ2 Q X z2) X z) else ep .nx
def sWhile (mt : E Bool) (mb : E Fl) : E Fl := fun ρ Q X z => ∃ n, whL mt mb n ρ Q X z
theorem xs_while {mt : E Bool} {mbody : E Fl} {body : List Stmt} (kx : Kx X C W k) (hc : XT X C W c mt) (hb : XSs X C W body mbody) : XS X C W (.While c body [] pos) (sWhile mt mbody) := by
  obtain ⟨tc, c1, c2⟩ := hc.ex
  obtain ⟨tb, b1, b2⟩ := hb.ex
  refine ⟨_, ps_while kx.po c1 b1, fun σ ρ F H z Qd Xd Dn S hm hq hx => ?_⟩
  obtain ⟨n, hn⟩ := hm
  refine ⟨fun m σ' H' => ∃ ρ' F' z', StOk C σ' ρ' F' H' z' ∧ Same F F' ∧ whL mt mbody m ρ' Qd Xd z', ⟨n, ρ, F, z, S, Same.refl _, hn⟩, ?_⟩
  rintro m σ1 H1 ⟨ρ1, F1, z1, S1, ff1, q1⟩
  cases m with
  | zero => exact False.elim q1
  | succ m =>
    refine c2 σ1 ρ1 F1 H1 z1 _ Xd _ S1 q1 (fun bb ρ2 z2 b F2 H2 q2 S2 ff2 k2 o2 r2 => ?_) (fun e ρ' z' cls dd F' H' q S' ff r => hx e ρ' z' cls dd σ1 F' H' q S' (ff1.trans ff) r)
    obtain rfl : b = bb := r2
    cases b with
    | false => exact hq .nx ρ2 z2 F2 H2 q2 (ff1.trans ff2) σ1 S2
    | true =>
      refine ⟨fun σ' H' => ∃ ρ' F' z', StOk C σ' ρ' F' H' z' ∧ Same F F' ∧ whL mt mbody m ρ' Qd Xd z', fun σ' H' w => ⟨m, Nat.lt_succ_self m, w⟩, ?_⟩
      refine b2 σ1 ρ2 F2 H2 z2 _ Xd _ S2 q2 (fun fl ρ5 z5 F5 H5 q5 ff5 => ?_) (fun e ρ' z' cls dd σ' F' H' q S' ff r => hx e ρ' z' cls dd σ' F' H' q S' ((ff1.trans ff2).trans ff) r)
      have ffa : Same F F5 := (ff1.trans ff2).trans ff5
      cases fl with
      | nx => exact fun σ5 S5 => ⟨ρ5, F5, z5, S5, ffa, q5⟩
      | ct => exact fun σ5 S5 => ⟨ρ5, F5, z5, S5, ffa, q5⟩
      | bk => exact fun σ5 S5 => hq .nx ρ5 z5 F5 H5 q5 ffa σ5 S5
      | ret d => exact hq (.ret d) ρ5 z5 F5 H5 q5 ffa
      | retO d => exact hq (.retO d) ρ5 z5 F5 H5 q5 ffa
end
end DL

namespace DL
open PySem PySem.Spec PyProof.Rows L2

/-! ## comprehensions -/
abbrev CC.hide (C : CC) (a : Addr) : CC := { C with hid := a :: C.hid }
abbrev wN : WX := fun _ _ _ _ => False
def wipeR (ρ : Rho) : List Nat → Rho
  | [] => ρ
  | v :: vs => (wipeR ρ vs).set v .no
theorem wipeR_length (ρ : Rho) : ∀ vs, (wipeR ρ vs).length = ρ.length
  | [] => rfl
  | v :: vs => by unfold wipeR; rw [List.length_set, wipeR_length ρ vs]
theorem wipeR_some {ρ : Rho} {i : Nat} {s : Sl} : ∀ {vs : List Nat}, (wipeR ρ vs)[i]? = some s → s = .no ∨ (i ∉ vs ∧ ρ[i]? = some s)
  | [], h => .inr ⟨by simp, h⟩
  | v :: vs, h => by
    unfold wipeR at h
    rcases get_set h with ⟨_, h2, _⟩ | ⟨h1, h2⟩
    · exact .inl h2
    · rcases wipeR_some h2 with h3 | ⟨h3, h4⟩
      · exact .inl h3
      · exact .inr ⟨by simp only [List.mem_cons, not_or]; exact ⟨h1, h3⟩, h4⟩
theorem wipe_in {σ : L2.St} {i : Nat} : ∀ {vs : List Nat}, i ∈ vs → (wipe σ vs)[i]? = if i < σ.length then some none else none
  | v :: vs, h => by
    unfold wipe
    by_cases hv : v = i
    · subst hv
      by_cases hl : v < σ.length
      · rw [if_pos hl, List.getElem?_set_self (by rw [wipe_length]; exact hl)]
      · rw [if_neg hl, List.getElem?_eq_none (by rw [List.length_set, wipe_length]; omega)]
    · rw [List.getElem?_set_ne hv]
      exact wipe_in ((List.mem_cons.mp h).resolve_left fun e => hv e.symm)
theorem wipe_eq {σ σ' : L2.St} {vs is : List Nat} (hs : ∀ i ∈ is, i ∈ vs) (h : ∀ j, j ∉ is → σ'[j]? = (wipe σ vs)[j]?) (hl : σ'.length = (wipe σ vs).length) : wipe σ' vs = wipe σ vs := by
  apply List.ext_getElem?
  intro i
  by_cases hi : i ∈ vs
  · rw [wipe_in hi, wipe_in hi, hl, wipe_length]
  · rw [wipe_out hi, h i fun m => hi (hs i m)]
section
variable {C : CC} {σ σ' : L2.St} {ρ ρ' : Rho} {F H : Hp} {z : Zs} {p : Addr} {vs : List Nat}
theorem StOk.slots (S : StOk C σ ρ F H z) (hl : σ'.length = ρ'.length) (h : ∀ (i : Nat) s, ρ'[i]? = some s → s = .no ∨ (ρ[i]? = some s ∧ σ'[i]? = σ[i]?)) : StOk C σ' ρ' F H z := by
  refine ⟨S.sub, S.f0, S.h0, S.nw, hl, fun i v s e1 e2 => ?_, fun i j x y a e1 e2 e3 e4 => ?_, S.pz, S.hd, S.cs⟩
  · rcases h i s e2 with e | ⟨e, e'⟩
    · subst e; cases v <;> trivial
    · exact S.env i v s (by rw [← e']; exact e1) e
  · rcases h i _ e1 with q | ⟨q, q'⟩
    · cases q
    · rcases h j _ e2 with r | ⟨r, r'⟩
      · cases r
      · exact S.apart i j x y a q r (by rw [← q']; exact e3) (by rw [← r']; exact e4)
theorem StOk.wipe (S : StOk C σ ρ F H z) : StOk C (L2.wipe σ vs) (wipeR ρ vs) F H z :=
  S.slots (by rw [wipe_length, wipeR_length]; exact S.len) fun i s e => by
    rcases wipeR_some e with h | ⟨h1, h2⟩
    · exact .inl h
    · exact .inr ⟨h2, wipe_out h1⟩
theorem StOk.hideN (S : StOk C σ ρ F H z) (h : H p = none) : StOk (C.hide p) σ ρ F (upd H p (.lst [])) z := by
  have S' := S.newH (o := .lst []) h
  refine ⟨S'.sub, S'.f0, S'.h0, S'.nw, S'.len, fun i v s e1 e2 => ?_, S'.apart, S'.pz, fun b hb => ?_, S'.cs⟩
  · have q := S.env i v s e1 e2
    cases s with
    | no => cases v <;> trivial
    | fr d =>
      cases v with
      | none => exact q.elim
      | some v => exact q
    | own ds =>
      cases v with
      | none => exact q.elim
      | some v =>
        obtain ⟨a, xs, rfl, ha, hf, h0, np, r, nh⟩ := q
        have ne : a ≠ p := fun e => by rw [e, h] at ha; cases ha
        exact ⟨a, xs, rfl, by rw [upd_ne ne]; exact ha, hf, h0, np, r, fun m => (List.mem_cons.mp m).elim ne nh⟩
  · rcases List.mem_cons.mp hb with e | hb
    · subst e
      exact ⟨S.free h, ⟨_, upd_same⟩, S.npa h⟩
    · exact S'.hd b hb
theorem StOk.unhide (S : StOk (C.hide p) σ ρ F H z) : StOk C σ ρ F H z :=
  ⟨S.sub, S.f0, S.h0, S.nw, S.len, fun i v s e1 e2 => by
    have q := S.env i v s e1 e2
    cases s with
    | no => cases v <;> trivial
    | fr d =>
      cases v with
      | none => exact q.elim
      | some v => exact q
    | own ds =>
      cases v with
      | none => exact q.elim
      | some v =>
        obtain ⟨a, xs, rfl, ha, hf, h0, np, r, nh⟩ := q
        exact ⟨a, xs, rfl, ha, hf, h0, np, r, fun m => nh (List.mem_cons_of_mem _ m)⟩, S.apart, S.pz, fun b hb => S.hd b (List.mem_cons_of_mem _ hb), S.cs⟩
theorem StOk.leave {ρx : Rho} (S : StOk (C.hide p) (L2.wipe σ vs) (wipeR ρx vs) F H z) : StOk C σ (wipeR ρx vs) F H z := by
  refine S.unhide.slots (by have := S.len; rw [wipe_length] at this; exact this) fun i s e => ?_
  rcases wipeR_some e with h | ⟨h1, h2⟩
  · exact .inl h
  · exact .inr ⟨e, (wipe_out h1).symm⟩
/-- an object hidden from the slots changes -/
theorem StOk.hidUpd {o : HO} (S : StOk C σ ρ F H z) (hp : p ∈ C.hid) (h0 : C.H0 p = none) : StOk C σ ρ F (upd H p o) z := by
  obtain ⟨hf, ⟨o', ho⟩, np⟩ := S.hd p hp
  refine ⟨Sub.updR S.sub hf, S.f0, S.h0.updH h0, S.nw, S.len, fun i v s e1 e2 => ?_, S.apart, fun q e => ?_, fun b hb => ?_, S.cs.grow (Same.refl F) (fun _ _ e => e) fun a k u e1 e2 => by rw [upd_ne (ne_of_none e1 hf)]; exact e2⟩
  · have q := S.env i v s e1 e2
    cases s with
    | no => cases v <;> trivial
    | fr d =>
      cases v with
      | none => exact q.elim
      | some v => exact q
    | own ds =>
      cases v with
      | none => exact q.elim
      | some v =>
        obtain ⟨a, xs, rfl, ha, hf, h0, np, r, nh⟩ := q
        have ne : a ≠ p := fun e => nh (by rw [e]; exact hp)
        exact ⟨a, xs, rfl, by rw [upd_ne ne]; exact ha, hf, h0, np, r, nh⟩
  · obtain ⟨h1, x, y, h2, r⟩ := S.pz q e
    have ne : q ≠ p := fun w => np (by rw [← w]; exact e.symm)
    exact ⟨h1, x, y, by rw [upd_ne ne]; exact h2, r⟩
  · obtain ⟨h1, ⟨u, h2⟩, h3⟩ := S.hd b hb
    by_cases e : b = p
    · subst e; exact ⟨h1, ⟨o, upd_same⟩, h3⟩
    · exact ⟨h1, ⟨u, by rw [upd_ne e]; exact h2⟩, h3⟩
end

structure XTs (X : Cx) (C : CC) (W : WX) (ifs : List Expr) (m : E Bool) : Prop where
  ex : ∃ t, PTs X ifs t ∧ Den C W t m kB
section
variable {X : Cx} {C : CC} {W : WX} {e elt tg iter : Expr} {ifs : List Expr} {m ma mb mc : E D} {pos p2 : Pos} {k : Nat} {scope : Scope} {own : List (Str × Nat)}
theorem xts_nil : XTs X C W [] (ep true) := ⟨tYes, pts_nil, fun σ ρ F H z Qd Xd Q S hm hq hx => S.same (R := kB) hm rfl hq⟩
theorem xts_one {mt : E Bool} (h : XT X C W e mt) : XTs X C W [e] mt := by
  obtain ⟨t, h1, h2⟩ := h.ex
  exact ⟨t, pts_one h1, h2⟩
theorem kx_blk {s : Shared} {H : Hp} {cenv : PySem.Env} {fp : List Addr} {D : Addr} (kx : Kx X C W k) : Kx (X.blk s H scope cenv fp) (C.hide D) wN k :=
  ⟨kx.hK, kx.hmg, kx.calm, kx.gu, kx.room, fun u s' ⟨_, _, _, _, _, _, _, _, _, _, _, _, _, _, _, _, w⟩ => w.elim, kx.nd, PassesOwn.never⟩
def lcL (vs : List Nat) (tg : Tg) (mt : E Bool) (me : E D) : List D → List D → E (List D)
  | [], acc => ep acc
  | d :: ds, acc => fun ρ Q X z => tg d ρ fun ρ1 => mt ρ1 (fun t ρ2 z2 => if t = true then me ρ2 (fun y ρ3 z3 => acc.length < 16777216 ∧ lcL vs tg mt me ds (acc ++ [y]) (wipeR ρ3 vs) Q X z3) (fun _ _ _ => False) z2 else lcL vs tg mt me ds acc (wipeR ρ2 vs) Q X z2) (fun _ _ _ => False) z
def eLc (vs : List Nat) (mi : E (List D)) (tg : Tg) (mt : E Bool) (me : E D) : E (List D) := eb mi fun ds ρ Q X z => lcL vs tg mt me ds [] (wipeR ρ vs) Q X z
abbrev Bk (X : Cx) (scope : Scope) (s : Shared) (H : Hp) (Cc : Addr) (cl : List (Str × Addr)) (fp : List Addr) : Cx := X.blk s H scope (compEnvC scope cl Cc X.env) fp
theorem RpL.app1 {K : PySem.W.Frag} {mg : Str → Option Value} {pa : Option Addr} {F : Hp} {vs : List V} {ds : List D} {v : V} {d : D} (h : RpL K mg pa F vs ds) (r : Rp K mg pa F v d) : RpL K mg pa F (vs ++ [v]) (ds ++ [d]) := RpL.append h (.cons r .nil)
theorem lc_den {mi : E (List D)} {g : Tg} {is : List Nat} {mt : E Bool} {me : E D} (kx : Kx X C W k) (hi : XI X C W tg iter mi)
    (hg : ∀ (s : Shared) (H : Hp) (Cc : Addr) (cl : List (Str × Addr)) (fp : List Addr) (D : Addr), Kx (Bk X scope s H Cc cl fp) (C.hide D) wN k → XG (Bk X scope s H Cc cl fp) (C.hide D) tg is g)
    (ht : ∀ (s : Shared) (H : Hp) (Cc : Addr) (cl : List (Str × Addr)) (fp : List Addr) (D : Addr), Kx (Bk X scope s H Cc cl fp) (C.hide D) wN k → XTs (Bk X scope s H Cc cl fp) (C.hide D) wN ifs mt)
    (he : ∀ (s : Shared) (H : Hp) (Cc : Addr) (cl : List (Str × Addr)) (fp : List Addr) (D : Addr), Kx (Bk X scope s H Cc cl fp) (C.hide D) wN k → XE (Bk X scope s H Cc cl fp) (C.hide D) wN elt me)
    (his : ∀ i ∈ is, i ∈ own.map (·.2)) :
    ∃ (wi : TI) (gU : TG) (tU : TT) (eU : TE), PI X tg iter wi ∧ (∀ (s : Shared) (H : Hp) (Cc : Addr) (cl : List (Str × Addr)) (fp : List Addr), PG (X.blk s H scope (compEnvC scope cl Cc X.env) fp) tg gU) ∧
      (∀ (s : Shared) (H : Hp) (Cc : Addr) (cl : List (Str × Addr)) (fp : List Addr), PTs (X.blk s H scope (compEnvC scope cl Cc X.env) fp) ifs tU) ∧
      (∀ (s : Shared) (H : Hp) (Cc : Addr) (cl : List (Str × Addr)) (fp : List Addr), PE (X.blk s H scope (compEnvC scope cl Cc X.env) fp) elt eU) ∧
      Den C W (tLc wi gU tU eU (own.map (·.2))) (eLc (own.map (·.2)) mi g mt me) (RO C) := by
  obtain ⟨wi, i1, i2⟩ := hi.ex
  let gU : TG := fun v σ H Q => ∀ s H2 Cc cl fp, ∃ g', PG (Bk X scope s H2 Cc cl fp) tg g' ∧ g' v σ H Q
  let tU : TT := fun σ H Q => ∀ s H2 Cc cl fp, ∃ t', PTs (Bk X scope s H2 Cc cl fp) ifs t' ∧ t' σ H Q
  let eU : TE := fun σ H Q => ∀ s H2 Cc cl fp, ∃ t', PE (Bk X scope s H2 Cc cl fp) elt t' ∧ t' σ H Q
  have gP : ∀ (s : Shared) (H : Hp) (Cc : Addr) (cl : List (Str × Addr)) (fp : List Addr), PG (X.blk s H scope (compEnvC scope cl Cc X.env) fp) tg gU := fun s H Cc cl fp => ⟨fun pins s1 σ H1 v u Q I r h => by
    obtain ⟨g', p1, p2⟩ := h s H Cc cl fp
    exact p1.run pins s1 σ H1 v u Q I r p2⟩
  have tP : ∀ (s : Shared) (H : Hp) (Cc : Addr) (cl : List (Str × Addr)) (fp : List Addr), PTs (X.blk s H scope (compEnvC scope cl Cc X.env) fp) ifs tU := fun s H Cc cl fp => ⟨fun pins s1 σ H1 Q I h => by
    obtain ⟨g', p1, p2⟩ := h s H Cc cl fp
    exact p1.run pins s1 σ H1 Q I p2⟩
  have eP : ∀ (s : Shared) (H : Hp) (Cc : Addr) (cl : List (Str × Addr)) (fp : List Addr), PE (X.blk s H scope (compEnvC scope cl Cc X.env) fp) elt eU := fun s H Cc cl fp => ⟨fun pins s1 σ H1 Q I h => by
    obtain ⟨g', p1, p2⟩ := h s H Cc cl fp
    exact p1.run pins s1 σ H1 Q I p2⟩
  have gD : ∀ D, DenG (C.hide D) gU is g := fun D σ ρ F H z v d Qd Q S r hm hq s H2 Cc cl fp => by
    obtain ⟨g', p1, p2⟩ := (hg s H2 Cc cl fp D (kx_blk kx)).ex
    exact ⟨g', p1, p2 σ ρ F H z v d Qd Q S r hm hq⟩
  have tD : ∀ D, Den (C.hide D) wN tU mt kB := fun D σ ρ F H z Qd Xd Q S hm hq hx s H2 Cc cl fp => by
    obtain ⟨g', p1, p2⟩ := (ht s H2 Cc cl fp D (kx_blk kx)).ex
    exact ⟨g', p1, p2 σ ρ F H z Qd Xd Q S hm hq hx⟩
  have eD : ∀ D, Den (C.hide D) wN eU me (kR C) := fun D σ ρ F H z Qd Xd Q S hm hq hx s H2 Cc cl fp => by
    obtain ⟨g', p1, p2⟩ := (he s H2 Cc cl fp D (kx_blk kx)).ex
    exact ⟨g', p1, p2 σ ρ F H z Qd Xd Q S hm hq hx⟩
  refine ⟨wi, gU, tU, eU, i1, gP, tP, eP, fun σ ρ F H z Qd Xd Q S hm hq hx => ?_⟩
  refine i2 σ ρ F H z _ Xd _ S hm (fun ds ρ1 z1 J F1 H1 q1 S1 ff1 k1 o1 it => ?_) hx
  intro D hD
  have h0D : C.H0 D = none := S1.h0None hD (S1.npa hD)
  have npD := S1.npa hD
  have oW : ∀ {ρa : Rho}, Ole ρa ρ1 → Ole (wipeR ρa (own.map (·.2))) ρ1 := fun {ρa} o i ys e => by
    rcases wipeR_some e with h | ⟨_, h⟩
    · cases h
    · exact o i ys h
  refine ⟨fun i m H' => m = ds.length - i ∧ i ≤ ds.length ∧ ∃ ρx F' z' acc xs, StOk (C.hide D) (wipe σ (own.map (·.2))) (wipeR ρx (own.map (·.2))) F' H' z' ∧ Same F1 F' ∧ Keep C.pa F1 F' H1 H' ∧ Ole (wipeR ρx (own.map (·.2))) ρ1 ∧ H' D = some (.lst xs) ∧ C.RL F' xs acc ∧
      lcL (own.map (·.2)) g mt me (ds.drop i) acc (wipeR ρx (own.map (·.2))) Qd Xd z', ⟨ds.length, by simp, Nat.zero_le _, ρ1, F1, z1, [], [], (S1.hideN hD).wipe, Same.refl _, Keep.new hD, oW Ole.refl, upd_same, .nil, q1⟩, ?_⟩
  rintro i m H2 ⟨rfl, hi, ρx, F2, z2, acc, xs, S2, ff2, k2, o2, hx2, rx2, q2⟩
  cases hd : ds[i]? with
  | none =>
    have hl : ds.length ≤ i := List.getElem?_eq_none_iff.mp hd
    rw [List.drop_eq_nil_of_le hl] at q2
    refine .inl ⟨it.stp (C.hide D) _ _ F2 H2 z2 rfl rfl rfl S2 ff2 i hd, ?_⟩
    have hH : H D = none := by
      cases q : H D with
      | none => rfl
      | some o => exact absurd hD (k1.dm D (by rw [q]; simp))
    exact hq acc _ z2 _ F2 H2 q2 S2.leave (ff1.trans ff2) (k1.trans k2) (o2.trans o1) ⟨D, xs, rfl, hx2, (S2.hd D List.mem_cons_self).1, hH, npD, rx2⟩
  | some d =>
    obtain ⟨hlt, hget⟩ := List.getElem?_eq_some_iff.mp hd
    rw [List.drop_eq_getElem_cons hlt, hget] at q2
    obtain ⟨go, yl⟩ := it.go (C.hide D) _ _ F2 H2 z2 rfl rfl rfl S2 ff2 i d hd
    refine .inr ⟨go, fun H' => ∃ ρx F' z' acc xs, StOk (C.hide D) (wipe σ (own.map (·.2))) (wipeR ρx (own.map (·.2))) F' H' z' ∧ Same F1 F' ∧ Keep C.pa F1 F' H1 H' ∧ Ole (wipeR ρx (own.map (·.2))) ρ1 ∧ H' D = some (.lst xs) ∧ C.RL F' xs acc ∧
      lcL (own.map (·.2)) g mt me (ds.drop (i + 1)) acc (wipeR ρx (own.map (·.2))) Qd Xd z', fun H' w => ⟨_, by omega, rfl, hlt, w⟩, fun x H3 y => ?_⟩
    obtain ⟨F3, ff3, S3, k3, r3⟩ := yl x H3 y
    refine gD D _ _ F3 H3 z2 x d _ _ S3 r3 q2 (fun σ4 ρ4 q4 S4 u4 o4 => ?_)
    have ew : wipe σ4 (own.map (·.2)) = wipe σ (own.map (·.2)) := wipe_eq his u4.1 u4.2
    refine ⟨ew, ?_⟩
    refine tD D σ4 ρ4 F3 H3 z2 _ (fun _ _ _ => False) _ S4 q4 (fun bb ρ5 z5 b F5 H5 q5 S5 ff5 k5 o5 r5 => ?_) (fun e ρ' z' cls dd F' H' q => q.elim)
    obtain rfl : b = bb := r5
    have hx5 : H5 D = some (.lst xs) := k5.ke D _ (k3.ke D _ hx2 npD (nog (S2.hd D List.mem_cons_self).1)) npD (nog (S4.hd D List.mem_cons_self).1)
    cases b with
    | false =>
      rw [if_neg Bool.false_ne_true] at q5 ⊢
      refine ⟨ρ5, F5, z5, acc, xs, by rw [← ew]; exact S5.wipe, (ff2.trans ff3).trans ff5, (k2.trans k3).trans k5, oW ((o5.trans o4).trans o2), hx5, RpL.mono (ff3.trans ff5) rx2, q5⟩
    | true =>
      rw [if_pos rfl] at q5 ⊢
      refine eD D σ4 ρ5 F5 H5 z5 _ (fun _ _ _ => False) _ S5 q5 (fun yd ρ6 z6 yv F6 H6 q6 S6 ff6 k6 o6 r6 => ?_) (fun e ρ' z' cls dd F' H' q => q.elim)
      have hx6 : H6 D = some (.lst xs) := k6.ke D _ hx5 npD (nog (S5.hd D List.mem_cons_self).1)
      have rx6 : C.RL F6 xs acc := RpL.mono ((ff3.trans ff5).trans ff6) rx2
      refine ⟨xs, hx6, by rw [RpL.length rx6, sizeLine_eq]; exact q6.1, ρ6, F6, z6, acc ++ [yd], xs ++ [yv], ?_, ((ff2.trans ff3).trans ff5).trans ff6, ?_, oW (((o6.trans o5).trans o4).trans o2), upd_same, RpL.app1 rx6 r6, q6.2⟩
      · rw [← ew]
        exact (S6.hidUpd List.mem_cons_self h0D).wipe
      · exact (((k2.trans k3).trans k5).trans k6).updH hD
theorem xo_lc {mi : E (List D)} {g : Tg} {is : List Nat} {mt : E Bool} {me : E D} (kx : Kx X C W k) (hi : XI X C W tg iter mi) (ok : blkC X.N X.env.scope scope own = true)
    (hg : ∀ (s : Shared) (H : Hp) (Cc : Addr) (cl : List (Str × Addr)) (fp : List Addr) (D : Addr), Kx (Bk X scope s H Cc cl fp) (C.hide D) wN k → XG (Bk X scope s H Cc cl fp) (C.hide D) tg is g)
    (ht : ∀ (s : Shared) (H : Hp) (Cc : Addr) (cl : List (Str × Addr)) (fp : List Addr) (D : Addr), Kx (Bk X scope s H Cc cl fp) (C.hide D) wN k → XTs (Bk X scope s H Cc cl fp) (C.hide D) wN ifs mt)
    (he : ∀ (s : Shared) (H : Hp) (Cc : Addr) (cl : List (Str × Addr)) (fp : List Addr) (D : Addr), Kx (Bk X scope s H Cc cl fp) (C.hide D) wN k → XE (Bk X scope s H Cc cl fp) (C.hide D) wN elt me)
    (his : ∀ i ∈ is, i ∈ own.map (·.2)) (hs : ∀ x, foldedSetIterable iter X.env x = pure x := by intro _; rfl) :
    XO X C W (.ListComp elt [⟨tg, iter, ifs, 0⟩] scope pos) (eLc (own.map (·.2)) mi g mt me) := by
  obtain ⟨wi, gU, tU, eU, i1, gP, tP, eP, dd⟩ := lc_den (own := own) kx hi hg ht he his
  exact ⟨_, pe_lc (own := own) kx.calm kx.nd i1 (blkOk_by ok) gP tP eP hs, dd⟩
/-- name = [..], the name owns the list -/
theorem xs_setLcO (i : Nat) {y : Str} {py spos : Pos} {mi : E (List D)} {g : Tg} {is : List Nat} {mt : E Bool} {me : E D} (kx : Kx X C W k) (hy : X.N[i]? = some y) (hyl : X.env.scope.names.lookup y = some .local) (hi : XI X C W tg iter mi) (ok : blkC X.N X.env.scope scope own = true)
    (hg : ∀ (s : Shared) (H : Hp) (Cc : Addr) (cl : List (Str × Addr)) (fp : List Addr) (D : Addr), Kx (Bk X scope s H Cc cl fp) (C.hide D) wN k → XG (Bk X scope s H Cc cl fp) (C.hide D) tg is g)
    (ht : ∀ (s : Shared) (H : Hp) (Cc : Addr) (cl : List (Str × Addr)) (fp : List Addr) (D : Addr), Kx (Bk X scope s H Cc cl fp) (C.hide D) wN k → XTs (Bk X scope s H Cc cl fp) (C.hide D) wN ifs mt)
    (he : ∀ (s : Shared) (H : Hp) (Cc : Addr) (cl : List (Str × Addr)) (fp : List Addr) (D : Addr), Kx (Bk X scope s H Cc cl fp) (C.hide D) wN k → XE (Bk X scope s H Cc cl fp) (C.hide D) wN elt me)
    (his : ∀ i ∈ is, i ∈ own.map (·.2)) (hsw : swapsWith (.ListComp elt [⟨tg, iter, ifs, 0⟩] scope pos) (some (.Name y py)) spos.line X.env = pure true) (hs : ∀ x, foldedSetIterable iter X.env x = pure x := by intro _; rfl) :
    XS X C W (.Assign [.Name y py] (.ListComp elt [⟨tg, iter, ifs, 0⟩] scope pos) spos) (sAsgO (eLc (own.map (·.2)) mi g mt me) i) := by
  obtain ⟨wi, gU, tU, eU, i1, gP, tP, eP, dd⟩ := lc_den (own := own) kx hi hg ht he his
  refine ⟨_, ps_setLc (own := own) kx.calm kx.nd hy hyl hsw i1 (blkOk_by ok) gP tP eP hs, fun σ ρ F H z Qd Xd Dn S hm hq hx => ?_⟩
  refine dd σ ρ F H z _ Xd (fun x H1 => gName i x σ H1 Dn.nx) S hm (fun d ρ1 z1 v F1 H1 q1 S1 ff1 k1 o1 ⟨p, xs, e1, e2, e3, e4, e5, e6⟩ => ?_) (fun e ρ' z' cls dd F' H' q S' ff r => hx e ρ' z' cls dd σ F' H' q S' ff r)
  subst e1
  exact hq _ _ _ _ _ q1 ff1 _ (S1.setO i e2 e3 (S.h0None e4 e5) e5 e6 (S.notOwn e4 o1) (S.notHid e4))
end
end DL

namespace DL
open PySem PySem.Spec PyProof.Rows L2

/-! ## own exception classes -/
def oexB (K : PySem.W.Frag) (C : Addr) : Bool := match K.lookup C with
  | some ⟨.type "type", _, .cls cd, sl⟩ => (match cd.mro, sl.toList with
    | .ref C' :: bm, [_, _, _, _, some (.builtin n), _] => decide (C' = C) && (n == "ValueError.__new__" && (!cd.hasDel && (cd.hasDict && PySem.HandSPX.refsVE bm)))
    | _, _ => false)
  | _ => false
theorem oexB_ok {K : PySem.W.Frag} {C : Addr} (h : oexB K C = true) : ∃ nm q N bs bm sn sub ab col dd k0 k1 k2 k3 k5, K.lookup C = some (excClassObj nm q C N bs bm true sn sub ab col dd k0 k1 k2 k3 k5 "ValueError.__new__") ∧ PySem.HandSPX.refsVE bm = true := by
  unfold oexB at h
  split at h
  · rename_i dd cd sl ho
    split at h
    · rename_i C' bm k0 k1 k2 k3 n k5 hm hs
      simp only [Bool.and_eq_true, decide_eq_true_eq, beq_iff_eq, Bool.not_eq_true'] at h
      obtain ⟨h1, h2, h3, h4, h5⟩ := h
      obtain ⟨nm, bs, mro, ns, qn, hd, sn, sub, ab, col, del⟩ := cd
      obtain ⟨l⟩ := sl
      dsimp only at hm h3 h4 hs
      subst h1 h2 hm h3 h4 hs
      exact ⟨nm, qn, ns, bs, bm, sn, sub, ab, col, dd, k0, k1, k2, k3, k5, ho, h5⟩
    · cases h
  · cases h
def eqOB (a b : Option (Option Value)) : Bool := decide (a = b)
/-- the class at C, its __init__ at f -/
structure EC (K : PySem.W.Frag) (C f : Addr) : Prop where
  oex : OexC K C
  xf : XfC K C
  xc : ExcC K C
  ini : PySem.W.findIn K (.ref C) "__init__" = some (some (.ref f))
  tI : PySem.W.typeIn K (.ref f) = some (.type "function")
  kI : PySem.W.keepIn K (.ref f) = true
  nov : PySem.W.findIn K (.ref C) "value" = some none
  rd : PySem.W.readsIn K C (.type "type") = true
  ga : PySem.W.specialIn K (.ref C) "__getattribute__" = some (some (.builtin "type.__getattribute__"))
  at_ : PySem.W.findCls K (.ref C) (.type "type") "__init__" = some (.val (.ref f))
  ve : PySem.W.findCls K (.type "ValueError") (.type "type") "__init__" = some (.val (.builtin "ValueError.__init__"))
def cfB : Option PySem.W.CFound → Option PySem.W.CFound → Bool
  | some (.val a), some (.val b) => decide (a = b)
  | some (.get a b c d), some (.get a' b' c' d') => decide (a = a') && (decide (b = b') && (decide (c = c') && decide (d = d')))
  | _, _ => false
theorem cfB_ok {a b : Option PySem.W.CFound} (h : cfB a b = true) : a = b := by
  unfold cfB at h
  split at h
  · rw [of_decide_eq_true h]
  · simp only [Bool.and_eq_true, decide_eq_true_eq] at h
    obtain ⟨rfl, rfl, rfl, rfl⟩ := h
    rfl
  · cases h
def ecB (K : PySem.W.Frag) (C f : Addr) : Bool :=
  oexB K C && (eqOB (PySem.W.findIn K (.ref C) "__setattr__") (some (some (.builtin "object.__setattr__"))) && (decide (PySem.W.subIn K (.ref C) (.type "BaseException") = some true) && (decide (PySem.W.typeIn K (.ref C) = some (.type "type")) && (PySem.W.keepIn K (.ref C) &&
  (xfB K C && (eqOB (PySem.W.findIn K (.ref C) "__class__") (some (some (.builtin "object.__class__"))) && (eqOB (PySem.W.specialIn K (.builtin "object.__class__") "__get__") (some (some (.builtin "getset_descriptor.__get__"))) && (decide (PySem.W.takesIn K (.builtin "object.__class__") = some true) && (decide (PySem.W.mroIn K C (.type "object") = some true) &&
  (eqOB (PySem.W.findIn K (.ref C) "__init__") (some (some (.ref f))) && (decide (PySem.W.typeIn K (.ref f) = some (.type "function")) && (PySem.W.keepIn K (.ref f) && (eqOB (PySem.W.findIn K (.ref C) "value") (some none) && (PySem.W.readsIn K C (.type "type") &&
  (eqOB (PySem.W.specialIn K (.ref C) "__getattribute__") (some (some (.builtin "type.__getattribute__"))) && (cfB (PySem.W.findCls K (.ref C) (.type "type") "__init__") (some (.val (.ref f))) &&
  cfB (PySem.W.findCls K (.type "ValueError") (.type "type") "__init__") (some (.val (.builtin "ValueError.__init__")))))))))))))))))))
theorem ecB_ok {K : PySem.W.Frag} {C f : Addr} (h : ecB K C f = true) : EC K C f := by
  unfold ecB eqOB at h
  simp only [Bool.and_eq_true, decide_eq_true_eq] at h
  obtain ⟨h1, h2, h3, h4, h5, h6, h7, h8, h9, h10, h11, h12, h13, h14, h15, h16, h17, h18⟩ := h
  have xf := xfB_ok h6
  exact ⟨⟨oexB_ok h1, h2, h3, h4, h5⟩, xf, ⟨xf.ga, xf.gg, xf.exC, xf.hdC, h7, h8, h9, h10⟩, h11, h12, h13, h14, h15, h16, cfB_ok h17, cfB_ok h18⟩

/-- C.__init__(e, ..), C a class of one's own -/
theorem pe_cinit {X : Cx} {CX : CXT} {C f : Addr} {k : Nat} {fd : FuncData} {ps : List Str} {sp : Sp} {E : XK} {x : Str} {p1 p2 pos : Pos} {e : Expr} {es : List Expr} {t : TA} {pl : Sem Bool} (ec : EC X.K C f) (hg : Gl X x) (hm : X.mg x = some (.ref C))
    (F : FnOk X.prog X.w X.K X.mg X.base CX k f fd ps sp) (hr : Room k X.A) (hb : Binds X.K fd ps []) (hx : Passes CX X E) (ha : PA X (e :: es) t)
    (hc : eval (.Call (.Attribute (.Name x p1) "__init__" p2) (e :: es) [] pos) X.env = (do
      let ov ← eval (.Name x p1) X.env
      standAt p2.atName
      let (f, first) ← holding [ov] (getMethod ov "__init__" pl)
      callWith pos f first (backTo pos (starEach (e :: es) X.env)) (backToKw pos (keywordEach [] X.env))) := by rfl)
    (hdb : (x == ("__debug__" : Str)) = false := by decide)
    (he : starEach (e :: es) X.env = (false, eval e X.env) :: starEach es X.env := by rfl) (hpl : (backTo pos (starEach es X.env)).any (·.1) = false := by rfl) :
    PE X (.Call (.Attribute (.Name x p1) "__init__" p2) (e :: es) [] pos) (tCall sp [] E t) := by
  constructor
  intro pins s σ H Q I h
  refine PySem.W.methodCall_KW (ld_glob I hg hm ?_ hdb) hc
  refine PySem.W.method_cls I.kIn ec.ga ?_
  refine PySem.W.cls_value I.kIn ec.rd ec.at_ rfl ?_
  refine PySem.W.callWith_K (h₀ := X.base) I.ok.mod.kin ec.kI (thn (ha.run pos pins _ σ H _ (I.tok _) h) ?_) he hpl
  rintro us s1 ⟨vs, H1, I1, r, q⟩
  exact ⟨I1.kIn, run_fn F hr hb .nil hx I1 r q⟩

/-! ### the two __init__ -/
def spIK (K : PySem.W.Frag) : Sp := fun vs H Q _ => ∃ (a C : Addr) (v : V), vs = [.ref a, v] ∧ OexC K C ∧ PySem.W.findIn K (.ref C) "value" = some none ∧ H a = some (exo a C none) ∧
  ∀ d, H d = none → d ≠ a → Q .non (upd (upd H d (exd d [(("value" : Str), v)])) a (exo a C (some d)))
theorem spIK_len {K : PySem.W.Frag} : ∀ vs H Q E, spIK K vs H Q E → vs.length = 2 := fun vs H Q E h => by
  obtain ⟨a, C, v, rfl, _⟩ := h
  rfl
abbrev nSV : List Str := ["self", "value"]
/-! ## raise -/
section
variable {X : Cx} {C : CC} {W : WX} {e a b : Expr} {m ma mb : E D} {pos p p1 p2 : Pos} {k : Nat} {x : Str}
def sRaise (c : Str) (m : E D) : E Fl := eb m fun d ρ _ X z => X (c, d) ρ z
theorem xs_raise {Ca fI : Addr} {fd : FuncData} {j : Nat} (kx : Kx X C W (k + 1)) (ec : EC X.K Ca fI) (F : FnOk X.prog X.w X.K X.mg X.base (L2.CX X.prog X.w) j fI fd nSV (spIK X.K)) (hj : j ≤ k) (hb : Binds X.K fd nSV []) (hg : Gl X x) (hm : X.mg x = some (.ref Ca))
    (ha : XE X C W e m) (h1 : S1 X e := by rfl) (hdb : (x == ("__debug__" : Str)) = false := by decide) :
    XS X C W (.Raise (some (.Call (.Name x p) [e] [] p1)) none pos) (sRaise x m) := by
  obtain ⟨t, t1, t2⟩ := ha.ex
  refine ⟨_, ps_raise kx.calm kx.tk (pmk_oex (ds := []) (dvs := []) ec.oex ec.ini ec.tI (F.mono hj) kx.room hb .nil (fun pins σ H s e' s' I c => passes_call kx.tk (E := fun _ _ _ => False) (fun _ _ _ _ z => z.elim) pins σ H s e' s' I c) hg hm (pa1 t1 h1) hdb h1), fun σ ρ F0 H z Qd Xd Dn S hm' hq hx => ?_⟩
  refine t2 σ ρ F0 H z _ Xd (fun v H1 => ([v] : List V).length ≤ 1000 ∧ ∀ a, H1 a = none → spIK X.K (.ref a :: ([v] ++ [])) (upd H1 a (exo a Ca none))
    (fun v' H2 => v' = .non ∧ ∃ (d : Addr) (fs : List (Str × V)), H2 a = some (exo a Ca (some d)) ∧ H2 d = some (exd d fs) ∧ H1 d = none ∧ W (.ref Ca) (some d) σ (upd (del H2 a) d (.xd fs))) (fun _ _ _ => False)) S hm' (fun d ρ1 z1 v F1 H1 q1 S1 ff1 k1 o1 r1 => ?_) (fun e ρ' z' cls dd F' H' q S' ff r => hx e ρ' z' cls dd σ F' H' q S' ff r)
  refine ⟨by show 1 ≤ 1000; omega, fun a ha0 => ⟨a, Ca, v, rfl, ec.oex, ec.nov, upd_same, fun d' hd hda => ?_⟩⟩
  have hd1 : H1 d' = none := by rw [upd_ne hda] at hd; exact hd
  refine ⟨rfl, d', _, upd_same, by rw [upd_ne hda, upd_same], hd1, ?_⟩
  have eH : upd (del (upd (upd (upd H1 a (exo a Ca none)) d' (exd d' [(("value" : Str), v)])) a (exo a Ca (some d'))) a) d' (.xd [(("value" : Str), v)]) = upd H1 d' (.xd [(("value" : Str), v)]) := by
    funext b
    by_cases hb1 : b = d'
    · rw [hb1, upd_same, upd_same]
    · rw [upd_ne hb1, upd_ne hb1]
      by_cases hb2 : b = a
      · rw [hb2, del_same, ha0]
      · rw [del_ne hb2, upd_ne hb2, upd_ne hb1, upd_ne hb2]
  rw [eH]
  exact hx _ ρ1 z1 _ _ σ _ _ q1 (S1.newF hd1 ngX) (ff1.trans (Same.new (S1.free hd1))) ⟨Ca, d', v, by rw [← kx.hmg]; exact hm, rfl, rfl, upd_same, Rp.mono (Same.new (S1.free hd1)) r1⟩
end

/-! ## try .. except C as e -/
section
variable {X : Cx} {C : CC} {W : WX} {m ma mb : E D} {pos pos' p np p1 p2 : Pos} {k : Nat} {x n : Str} {cv : Value} {body suite : List Stmt} {b0 : Stmt} {i : Nat}
def dropX (i : Nat) (Q : Fl → Rho → Zs → Prop) : Fl → Rho → Zs → Prop := fun fl ρ z => match fl with
  | .ret d => Q (.ret d) ρ z
  | .retO d => Q (.retO d) ρ z
  | fl => Q fl (ρ.set i .no) z
/-- tbl: whether the clause takes an error of this class's name -/
def sTry (i : Nat) (mb : E Fl) (tbl : Str → Option Bool) (hM : Addr → Addr → Str → E Fl) : E Fl := fun ρ Q X z => mb ρ Q (fun e ρ' z' => ∃ b, tbl e.1 = some b ∧ if b = true then ∀ a x, hM a x e.1 (ρ'.set i (.fr (.exn a x e.1 e.2))) (dropX i Q) (fun _ _ _ => False) z' else X e ρ' z') z
theorem StOk.setNo {σ : L2.St} {ρ : Rho} {F H : Hp} {z : Zs} (S : StOk C σ ρ F H z) (i : Nat) (v : Option V) : StOk C (σ.set i v) (ρ.set i .no) F H z :=
  S.slots (by rw [List.length_set, List.length_set]; exact S.len) fun j s e => by
    rcases get_set e with ⟨_, h2, _⟩ | ⟨h1, h2⟩
    · exact .inl h2
    · exact .inr ⟨h2, List.getElem?_set_ne (Ne.symm h1)⟩
theorem xs_try {mbody : E Fl} {tbl : Str → Option Bool} {hM : Addr → Addr → Str → E Fl} (kx : Kx X C W k) (hs : X.stack = X.env :: X.outer) (hf : X.env.frame = some X.env.locals) (hi : X.N[i]? = some n) (hln : X.env.kindOf n = some .local) (hc : Names X x cv)
    (ht : ∀ nm b A, tbl nm = some b → C.mg nm = some (.ref A) → PySem.W.exmOne X.K (.ref A) cv = some b)
    (hb : ∀ (W' : WX) (pn : List (Addr × Obj)) (xe : Value → Shared → Prop), Kx (X.tr pn xe) C W' k → XSs (X.tr pn xe) C W' body mbody)
    (hsu : ∀ (a : Addr) (oe : Obj) (A x : Addr) (nm : Str) (pn : List (Addr × Obj)), C.mg nm = some (.ref A) → Zc (.ref A) (some x) oe → (∃ vs, oe.data = .fields vs) → tbl nm = some true → XSs (X.suite a ((a, oe) :: pn)) C wN (b0 :: suite) (hM a x nm)) :
    XS X C W (.Try body [.ExceptHandler (some (.Name x np)) (some n) (b0 :: suite) pos'] [] [] pos) (sTry i mbody tbl hM) := by
  let tbU : WX → TS := fun W' D σ H => ∀ pn xe, Kx (X.tr pn xe) C W' k → ∃ t, PSs (X.tr pn xe) body t ∧ t D σ H
  let tsU : Addr → Value → Option Addr → TS := fun a cls d D σ H => ∀ oe pn, Zc cls d oe → (∃ vs, oe.data = .fields vs) → ∃ t, PSs (X.suite a ((a, oe) :: pn)) (b0 :: suite) t ∧ t D σ H
  refine ⟨_, ps_try_as (tb := tbU) (ts := tsU) hs hf kx.nd hi hln hc kx.tk (fun W' pn xe tk po => ?_) (fun a oe cls d pn hz hv => ?_), fun σ ρ F H z Qd Xd Dn S hm hq hx => ?_⟩
  · constructor
    intro pins s σ H D I h
    obtain ⟨t, h1, h2⟩ := h pn xe ⟨kx.hK, kx.hmg, kx.calm, kx.gu, kx.room, tk, kx.nd, po⟩
    exact h1.run pins s σ H D I h2
  · constructor
    intro pins s σ H D I h
    obtain ⟨t, h1, h2⟩ := h oe pn hz hv
    exact h1.run pins s σ H D I h2
  · intro pn xe kx'
    obtain ⟨t, h1, h2⟩ := (hb _ pn xe kx').ex
    refine ⟨t, h1, h2 σ ρ F H z Qd _ Dn S hm hq (fun e ρ' z' cls dd σ' F' H' q S' ff r => ?_)⟩
    obtain ⟨b, hb1, q⟩ := q
    have r0 := r
    obtain ⟨A, x', v, g1, rfl, rfl, g4, g5⟩ := r
    refine ⟨b, ht e.1 b A hb1 g1, fun hb2 a ha oe pn' hz hv => ?_, fun hb2 => ?_⟩
    · subst hb2
      rw [if_pos rfl] at q
      obtain ⟨t2, k1, k2⟩ := (hsu a oe A x' e.1 pn' g1 hz hv hb1).ex
      have S2 : StOk C (σ'.set i (some (.ref a))) (ρ'.set i (.fr (.exn a x' e.1 e.2))) F' H' z' := S'.setF i (.exn g4 g5)
      refine ⟨t2, k1, k2 _ _ F' H' z' _ (fun _ _ _ => False) _ S2 (q a x') (fun fl ρ2 z2 F2 H2 q2 ff2 => ?_) (fun e ρ' z' cls dd σ' F' H' q => q.elim)⟩
      have h3 := fun fl q => hq fl (ρ2.set i .no) z2 F2 H2 q (ff.trans ff2)
      cases fl with
      | nx => exact fun σ2 S2 => h3 .nx q2 _ (S2.setNo i none)
      | bk => exact fun σ2 S2 => h3 .bk q2 _ (S2.setNo i none)
      | ct => exact fun σ2 S2 => h3 .ct q2 _ (S2.setNo i none)
      | ret d => exact hq (.ret d) ρ2 z2 F2 H2 q2 (ff.trans ff2)
      | retO d => exact hq (.retO d) ρ2 z2 F2 H2 q2 (ff.trans ff2)
    · subst hb2
      rw [if_neg Bool.false_ne_true] at q
      exact hx e ρ' z' _ _ σ' F' H' q S' ff r0

/-! ### the error that the suite holds -/
def eExv (i : Nat) (a x : Addr) : E D := fun ρ Q _ z => match ρ[i]? with
  | some (.fr (.exn a' x' _ d)) => (a' = a ∧ x' = x) ∧ Q d ρ z
  | _ => False
theorem xe_exv {a A : Addr} {dx : Addr} {oe : Obj} {pn : List (Addr × Obj)} (hK : X.K = C.K) (T : XfC X.K A) (hno : PySem.W.findIn X.K (.ref A) "value" = some none) (hz : Zc (.ref A) (some dx) oe) (hf : ∃ vs, oe.data = .fields vs) (i : Nat)
    (hv : PE (X.suite a ((a, oe) :: pn)) (.Name n np) (tVar i)) (hb : attributeBase (.Name n np) "value" X.env (eval (.Name n np) X.env) = eval (.Name n np) X.env := by rfl) : XE (X.suite a ((a, oe) :: pn)) C W (.Attribute (.Name n np) "value" pos) (eExv i a dx) := by
  refine ⟨_, pe_xf (pn := pn) T hno hz hf hv hb, fun σ ρ F H z Qd Xd Q S hm hq hx => ?_⟩
  unfold eExv at hm
  cases e : ρ[i]? with
  | none => rw [e] at hm; exact hm.elim
  | some s =>
    rw [e] at hm
    obtain ⟨v, e1, r⟩ := st_get S e
    cases s with
    | no => exact hm.elim
    | own ds => exact hm.elim
    | fr d =>
      cases v with
      | none => exact r.elim
      | some v =>
        cases d with
        | exn a' x' c' d =>
          obtain ⟨⟨rfl, rfl⟩, hm⟩ := hm
          have r' : C.R F v (.exn a' x' c' d) := r
          cases r' with
          | exn g4 g5 => exact ⟨_, e1, rfl, rfl, x', _, _, rfl, S.sub _ _ g4 ngX, rfl, S.same (R := kR C) hm g5 hq⟩
        | _ => exact hm.elim
def rIsX (K : PySem.W.Frag) (A a dx : Addr) (cv : Value) : R2 := fun x y H Q => ∃ b, x = .ref a ∧ (∀ u, RelV y u → u = cv) ∧ (∃ fs, H dx = some (.xd fs)) ∧ PySem.W.kitOne K (.ref A) cv = some b ∧ Q (.bl b) H
theorem call_isX {a A dx : Addr} {oe : Obj} {pn : List (Addr × Obj)} (T : ExcC X.K A) (hz : Zc (.ref A) (some dx) oe) (hf : ∃ vs, oe.data = .fields vs) : CallR (X.suite a ((a, oe) :: pn)) (.builtin "isinstance") (fun xs H Q => ∃ x y, xs = [x, y] ∧ rIsX X.K A a dx cv x y H Q) := by
  intro pins s σ H xs us Q I r h
  obtain ⟨x, y, rfl, b, rfl, hcv, ⟨fs, hd⟩, e, q⟩ := h
  cases r with
  | cons rx rr =>
    cases rr with
    | cons rt rr =>
      cases rr
      cases rx
      obtain rfl := hcv _ rt
      obtain ⟨hget, _⟩ := I.pin (a, oe) (List.mem_append.mpr (.inl List.mem_cons_self))
      obtain ⟨vs, hv⟩ := hf
      have hx : ObjOk X.prog X.w H s.heap dx (.xd fs) := I.hok dx _ hd
      obtain ⟨mA, hns, hr⟩ := hx
      obtain ⟨od, ho, hl⟩ := lookIn_ns hns
      have J : PySem.W.InstAt s.heap a oe A (some od) := by
        refine ⟨hget, hz.1, ?_, ?_⟩
        · unfold PySem.W.notCls
          rw [hv] <;> rfl
        · rw [hz.2]
          exact ho
      have hcl : (PySem.W.clsIn X.K A).isSome = true := by
        obtain ⟨cd, hc, _⟩ := PySem.W.any_some T.hd
        rw [hc]
        rfl
      exact PySem.W.kia_one (PySem.W.kitx_exc (od := some od) hcl T.hg T.hk T.hs T.ha T.hn T.ht T.hm) I.kIn J e (fun z => nomatch z) fun tk => ⟨.bl b, H, I.kept (t' := tk) fun _ _ z => z, rfl, q⟩
def eIsX (i : Nat) (a x : Addr) (nm : Str) (tbl : Str → Option Bool) : E D := fun ρ Q _ z => match ρ[i]? with
  | some (.fr (.exn a' x' nm' _)) => (a' = a ∧ x' = x ∧ nm' = nm) ∧ ∃ b, tbl nm = some b ∧ Q (.bl b) ρ z
  | _ => False
/-- isinstance(e, c) -/
theorem xe_isX {a A : Addr} {dx : Addr} {oe : Obj} {pn : List (Addr × Obj)} {nm : Str} {tbl : Str → Option Bool} {y : V} {e2 : Expr} (hK : X.K = C.K) (T : ExcC X.K A) (hz : Zc (.ref A) (some dx) oe) (hf : ∃ vs, oe.data = .fields vs) (i : Nat)
    (hnm : ∀ b, tbl nm = some b → PySem.W.kitOne X.K (.ref A) cv = some b) (hv : PE (X.suite a ((a, oe) :: pn)) (.Name n np) (tVar i)) (h2 : PE (X.suite a ((a, oe) :: pn)) e2 (tC y)) (hy : ∀ u, RelV y u → u = cv)
    (hg : Gl X "isinstance") (hm : X.mg "isinstance" = none) (hp : starEach (.Name n np :: [e2]) X.env = (false, eval (.Name n np) X.env) :: starEach [e2] X.env := by rfl) (hpl : (backTo pos (starEach [e2] X.env)).any (·.1) = false := by rfl) (h1 : S1 X e2 := by rfl) :
    XE (X.suite a ((a, oe) :: pn)) C W (.Call (.Name "isinstance" p) [.Name n np, e2] [] pos) (eIsX i a dx nm tbl) := by
  refine ⟨_, pe_callB (call_isX (pn := pn) (cv := cv) T hz hf) hg hm rfl (pa2 hv h2 hp h1) (by decide) (by decide) hp hpl, fun σ ρ F H z Qd Xd Q S hm' hq hx => ?_⟩
  unfold eIsX at hm'
  cases e : ρ[i]? with
  | none => rw [e] at hm'; exact hm'.elim
  | some s =>
    rw [e] at hm'
    obtain ⟨v, e1, r⟩ := st_get S e
    cases s with
    | no => exact hm'.elim
    | own ds => exact hm'.elim
    | fr d =>
      cases v with
      | none => exact r.elim
      | some v =>
        cases d with
        | exn a' x' c' d =>
          obtain ⟨⟨rfl, rfl, rfl⟩, b, hb, hm'⟩ := hm'
          have r' : C.R F v (.exn a' x' c' d) := r
          cases r' with
          | exn g4 g5 => exact ⟨_, e1, _, _, rfl, b, rfl, hy, ⟨_, S.sub _ _ g4 ngX⟩, hnm b hb, S.same (R := kR C) hm' (.bl b) hq⟩
        | _ => exact hm'.elim
end
end DL

namespace DL
open PySem PySem.Spec PyProof.Rows L2

/-! ## own lists that change -/
section
variable {C : CC} {σ : L2.St} {ρ : Rho} {F H : Hp} {z : Zs}
theorem StOk.mut (S : StOk C σ ρ F H z) {i : Nat} {ds es : List D} {a : Addr} {ys : List V} (e : ρ[i]? = some (.own ds)) (hs : σ[i]? = some (some (.ref a))) (r : C.RL F ys es) : StOk C σ (ρ.set i (.own es)) F (upd H a (.lst ys)) z := by
  obtain ⟨a', xs, e1, ha, hf, h0, np, r0, nh⟩ := S.env i _ _ hs e
  cases e1
  have hi : i < ρ.length := (List.getElem?_eq_some_iff.mp e).1
  refine ⟨Sub.updR S.sub hf, S.f0, S.h0.updH h0, S.nw, by rw [List.length_set]; exact S.len, fun j v s e1 e2 => ?_, fun j k x y b e1 e2 e3 e4 => ?_, fun q e => ?_, fun b hb => ?_, S.cs.grow (Same.refl F) (fun _ _ e => e) fun b k u e1 e2 => by rw [upd_ne (ne_of_none e1 hf)]; exact e2⟩
  · rcases get_set e2 with ⟨h1, h2, _⟩ | ⟨h1, h2⟩
    · subst h1 h2
      rw [hs] at e1
      cases e1
      exact ⟨a, ys, rfl, upd_same, hf, h0, np, r, nh⟩
    · have q := S.env j v s e1 h2
      cases s with
      | no => cases v <;> trivial
      | fr d =>
        cases v with
        | none => exact q.elim
        | some v => exact q
      | own fs =>
        cases v with
        | none => exact q.elim
        | some v =>
          obtain ⟨b, zs, rfl, hb, hfb, h0b, npb, rb, nhb⟩ := q
          have ne : b ≠ a := fun w => h1 (S.apart j i fs ds b h2 e e1 (by rw [hs, w]))
          exact ⟨b, zs, rfl, by rw [upd_ne ne]; exact hb, hfb, h0b, npb, rb, nhb⟩
  · have key : ∀ {j : Nat} {x : List D}, (ρ.set i (Sl.own es))[j]? = some (Sl.own x) → ∃ x', ρ[j]? = some (Sl.own x') := fun {j x} h => by
      rcases get_set h with ⟨h1, h2, _⟩ | ⟨h1, h2⟩
      · rw [h1]; exact ⟨_, e⟩
      · exact ⟨_, h2⟩
    obtain ⟨x', ex⟩ := key e1
    obtain ⟨y', ey⟩ := key e2
    exact S.apart j k x' y' b ex ey e3 e4
  · obtain ⟨h1, x, y, h2, rr⟩ := S.pz q e
    have ne : q ≠ a := fun w => np (by rw [← w]; exact e.symm)
    exact ⟨h1, x, y, by rw [upd_ne ne]; exact h2, rr⟩
  · obtain ⟨h1, ⟨u, h2⟩, h3⟩ := S.hd b hb
    have ne : b ≠ a := fun w => nh (by rw [← w]; exact hb)
    exact ⟨h1, ⟨u, by rw [upd_ne ne]; exact h2⟩, h3⟩
theorem ole_own {i : Nat} {ds es : List D} (e : ρ[i]? = some (.own ds)) : Ole (ρ.set i (.own es)) ρ := fun j ys h => by
  rcases get_set h with ⟨h1, h2, _⟩ | ⟨h1, h2⟩
  · rw [h1]; exact ⟨_, e⟩
  · exact ⟨_, h2⟩
end
section
variable {X : Cx} {C : CC} {W : WX} {e a b : Expr} {m ma mb : E D} {pos p p1 p2 p3 : Pos} {k : Nat} {x : Str}
/-- x.append(e) -/
def sApp (i : Nat) (m : E D) : E Fl := fun ρ Q X z => match ρ[i]? with
  | some (.own _) => m ρ (fun y ρ' z' => match ρ'[i]? with
    | some (.own ds) => ds.length < 16777216 ∧ Q .nx (ρ'.set i (.own (ds ++ [y]))) z'
    | _ => False) X z
  | _ => False
theorem xs_app (i : Nat) (kx : Kx X C W k) (hv : PE X (.Name x p) (tVar i)) (ha : XE X C W e m) (h1 : S1 X e := by rfl)
    (hbase : attributeBase (.Name x p) "append" X.env (eval (.Name x p) X.env) = eval (.Name x p) X.env := by rfl)
    (hfew : ((backTo p2 (starEach (e :: []) X.env)).all (fun x => !x.1) && (backToKw p2 (keywordEach [] X.env)).all (fun x => x.1.isSome)
      && decide ((e :: ([] : List Expr)).length + ([] : List Keyword).length + (if ([] : List Keyword).isEmpty then 0 else 1) < 30)) = true := by rfl)
    (hline : (p1.endLine == p2.line) = true := by rfl) (hs : swapsWith (.Call (.Attribute (.Name x p) "append" p1) [e] [] p2) none p3.line X.env = pure false := by rfl) :
    XS X C W (.Expr (.Call (.Attribute (.Name x p) "append" p1) [e] [] p2) p3) (sApp i m) := by
  obtain ⟨t, t1, t2⟩ := ha.ex
  refine ⟨_, ps_expr (pe_bm PySem.F.plainAttrs_list F.slot_list_append F.type_list_append mt_append hv (pa1 t1 h1) hbase hfew hline h1 rfl) hs, fun σ ρ F H z Qd Xd Dn S hm hq hx => ?_⟩
  unfold sApp at hm
  cases e0 : ρ[i]? with
  | none => rw [e0] at hm; exact hm.elim
  | some s =>
    rw [e0] at hm
    obtain ⟨v, e1, r⟩ := st_get S e0
    cases s with
    | no => exact hm.elim
    | fr d => exact hm.elim
    | own ds0 =>
      cases v with
      | none => exact r.elim
      | some v =>
        obtain ⟨l, xs, rfl, ha0, hf, h0, np, rr, nh⟩ := r
        refine ⟨_, e1, .inl ⟨rfl, xs, .inl (.inl ha0)⟩, ?_⟩
        refine t2 σ ρ F H z _ Xd (fun y H1 => rAppend (.ref l) [y] H1 fun _ H2 => Dn.nx σ H2) S hm (fun d ρ1 z1 v F1 H1 q1 S1 ff1 k1 o1 r1 => ?_) (fun e ρ' z' cls dd F' H' q S' ff r => hx e ρ' z' cls dd σ F' H' q S' ff r)
        cases e2 : ρ1[i]? with
        | none => rw [e2] at q1; exact q1.elim
        | some s =>
          rw [e2] at q1
          cases s with
          | no => exact q1.elim
          | fr d => exact q1.elim
          | own ds =>
            obtain ⟨l', ys, el, hl, _, _, _, r2, _⟩ := S1.env i _ _ e1 e2
            cases el
            refine ⟨l, ys, v, rfl, rfl, hl, by rw [RpL.length r2, sizeLine_eq]; exact q1.1, ?_⟩
            exact hq .nx _ z1 F1 _ q1.2 ff1 σ (S1.mut e2 e1 (RpL.app1 r2 r1))
/-- x.reverse(), x.clear() -/
def sMt0 (i : Nat) (f : List D → List D) : E Fl := fun ρ Q _ z => match ρ[i]? with
  | some (.own ds) => Q .nx (ρ.set i (.own (f ds))) z
  | _ => False
theorem xs_mt0 (i : Nat) {nm : Str} {id : String} {r : V → List V → Hp → VK → Prop} {f : List D → List D} {fv : List V → List V} (slot : Slot "list" nm id) (hty : typeOf (.builtin id) = pure (.type "method_descriptor")) (hm : MtR X id r)
    (hr : ∀ l xs H Q, H l = some (.lst xs) → Q .non (upd H l (.lst (fv xs))) → r (.ref l) [] H Q) (hf : ∀ mg pa (F : Hp) xs ds, RpL C.K mg pa F xs ds → RpL C.K mg pa F (fv xs) (f ds))
    (hv : PE X (.Name x p) (tVar i)) (hbase : attributeBase (.Name x p) nm X.env (eval (.Name x p) X.env) = eval (.Name x p) X.env := by rfl) (hline : (p1.endLine == p2.line) = true := by rfl)
    (hs : swapsWith (.Call (.Attribute (.Name x p) nm p1) [] [] p2) none p3.line X.env = pure false := by rfl) : XS X C W (.Expr (.Call (.Attribute (.Name x p) nm p1) [] [] p2) p3) (sMt0 i f) := by
  refine ⟨_, ps_expr (pe_bm0 PySem.F.plainAttrs_list slot hty hm hv hbase hline) hs, fun σ ρ F H z Qd Xd Dn S hm' hq hx => ?_⟩
  unfold sMt0 at hm'
  cases e0 : ρ[i]? with
  | none => rw [e0] at hm'; exact hm'.elim
  | some s =>
    rw [e0] at hm'
    obtain ⟨v, e1, r⟩ := st_get S e0
    cases s with
    | no => exact hm'.elim
    | fr d => exact hm'.elim
    | own ds0 =>
      cases v with
      | none => exact r.elim
      | some v =>
        obtain ⟨l, xs, rfl, ha0, hf0, h0, np, rr, nh⟩ := r
        refine ⟨_, e1, .inl ⟨rfl, xs, .inl (.inl ha0)⟩, hr l xs H _ ha0 ?_⟩
        exact hq .nx _ z F _ hm' (Same.refl F) σ (S.mut e0 e1 (hf _ _ _ _ _ rr))
theorem RpL.rev {K : PySem.W.Frag} {mg : Str → Option Value} {pa : Option Addr} {F : Hp} : ∀ {ds : List D} {vs : List V}, RpL K mg pa F vs ds → RpL K mg pa F vs.reverse ds.reverse
  | [], _, h => by cases h; exact .nil
  | _ :: _, _, h => by
    cases h with
    | cons a b =>
      rw [List.reverse_cons, List.reverse_cons]
      exact RpL.append (RpL.rev b) (.cons a .nil)
theorem xs_reverse (i : Nat) (hv : PE X (.Name x p) (tVar i)) (hbase : attributeBase (.Name x p) "reverse" X.env (eval (.Name x p) X.env) = eval (.Name x p) X.env := by rfl) (hline : (p1.endLine == p2.line) = true := by rfl)
    (hs : swapsWith (.Call (.Attribute (.Name x p) "reverse" p1) [] [] p2) none p3.line X.env = pure false := by rfl) : XS X C W (.Expr (.Call (.Attribute (.Name x p) "reverse" p1) [] [] p2) p3) (sMt0 i List.reverse) :=
  xs_mt0 i F.slot_list_reverse F.type_list_reverse mt_reverse (fun l xs H Q h q => ⟨l, xs, rfl, rfl, h, q⟩) (fun mg pa F xs ds r => RpL.rev r) hv hbase hline hs
theorem xs_clear (i : Nat) (hv : PE X (.Name x p) (tVar i)) (hbase : attributeBase (.Name x p) "clear" X.env (eval (.Name x p) X.env) = eval (.Name x p) X.env := by rfl) (hline : (p1.endLine == p2.line) = true := by rfl)
    (hs : swapsWith (.Call (.Attribute (.Name x p) "clear" p1) [] [] p2) none p3.line X.env = pure false := by rfl) : XS X C W (.Expr (.Call (.Attribute (.Name x p) "clear" p1) [] [] p2) p3) (sMt0 i fun _ => []) :=
  xs_mt0 i F.slot_list_clear F.type_list_clear mt_clear (fun l xs H Q h q => ⟨l, xs, rfl, rfl, h, q⟩) (fun mg pa F xs ds r => .nil) hv hbase hline hs
/-- x[e] = v -/
def sSetI (i : Nat) (mv mk : E D) : E Fl := eb mv fun y ρ Q X z => match ρ[i]? with
  | some (.own _) => mk ρ (fun d ρ' z' => match ρ'[i]?, d with
    | some (.own ds), .int k => ∃ j, ixN ds.length k = some j ∧ Q .nx (ρ'.set i (.own (ds.set j y))) z'
    | _, _ => False) X z
  | _ => False
theorem xs_setI (i : Nat) {mv mk : E D} {v : Expr} (hv : PE X (.Name x p) (tVar i)) (ha : XE X C W v mv) (hb : XE X C W e mk) (hs : swapsWithSole [.Subscript (.Name x p) e p1] v pos.line X.env = pure false := by rfl) (hw : swappedStores [.Subscript (.Name x p) e p1] v X.env = pure none := by rfl)
    (hset : ∀ w, assign (.Subscript (.Name x p) e p1) X.env w = (do
      let ov ← holding [w] (eval (.Name x p) X.env)
      let iv ← holding [w, ov] (eval e X.env)
      standAt p1
      holding [w, ov, iv] (setItem ov iv w)
      release [w, ov, iv] []) := by intro _; rfl)
    (h1 : (assignEach [.Subscript (.Name x p) e p1] X.env).map (·.2) = [assign (.Subscript (.Name x p) e p1) X.env] := by rfl) :
    XS X C W (.Assign [.Subscript (.Name x p) e p1] v pos) (sSetI i mv mk) := by
  obtain ⟨t, t1, t2⟩ := ha.ex
  obtain ⟨u, u1, u2⟩ := hb.ex
  refine ⟨_, ps_asg t1 (pg_sub hv u1 set_list hset) hs hw h1, fun σ ρ F H z Qd Xd Dn S hm hq hx => ?_⟩
  refine t2 σ ρ F H z _ Xd (fun y H1 => gSub (tVar i) u rSetL y σ H1 Dn.nx) S hm (fun d ρ1 z1 v F1 H1 q1 S1 ff1 k1 o1 r1 => ?_) (fun e ρ' z' cls dd F' H' q S' ff r => hx e ρ' z' cls dd σ F' H' q S' ff r)
  dsimp only at q1
  cases e0 : ρ1[i]? with
  | none => rw [e0] at q1; exact q1.elim
  | some s =>
    rw [e0] at q1
    obtain ⟨w, e1, r⟩ := st_get S1 e0
    cases s with
    | no => exact q1.elim
    | fr d => exact q1.elim
    | own ds0 =>
      cases w with
      | none => exact r.elim
      | some w =>
        obtain ⟨l, xs, rfl, ha0, hf, h0, np, rr, nh⟩ := r
        refine ⟨_, e1, ?_⟩
        refine u2 σ ρ1 F1 H1 z1 _ Xd (fun iv H2 => rSetL (.ref l) iv v H2 fun H3 => Dn.nx σ H3) S1 q1 (fun di ρ2 z2 vi F2 H2 q2 S2 ff2 k2 o2 r2 => ?_) (fun e ρ' z' cls dd F' H' q S' ff r => hx e ρ' z' cls dd σ F' H' q S' (ff1.trans ff) r)
        cases e2 : ρ2[i]? with
        | none => rw [e2] at q2; exact q2.elim
        | some s =>
          rw [e2] at q2
          cases s with
          | no => exact q2.elim
          | fr d => exact q2.elim
          | own ds =>
            cases di with
            | int k =>
              obtain ⟨j, hj, q2⟩ := q2
              cases r2
              obtain ⟨l', ys, el, hl, _, _, _, r3, _⟩ := S2.env i _ _ e1 e2
              cases el
              exact ⟨l, ys, k, j, rfl, rfl, hl, by rw [RpL.length r3]; exact hj, hq .nx _ z2 F2 _ q2 (ff1.trans ff2) σ (S2.mut e2 e1 (RpL.set j r3 (Rp.mono ff2 r1)))⟩
            | _ => exact q2.elim

/-! ## the purse -/
theorem StOk.pzSet {σ : L2.St} {ρ : Rho} {F H : Hp} {z : Zs} {q : Addr} {x' y' z' : Int} (S : StOk C σ ρ F H z) (hq : C.pa = some q) (h0 : 0 ≤ x') (h1 : 0 ≤ y') (h2 : y' < 10 ^ 24 + 7) (h3 : 0 ≤ z') : StOk C σ ρ F (upd H q (.lst [.int x', .int y', .int z'])) { z with n := z' } := by
  have hf : F q = none := (S.pz q hq).1
  have hk : Keep C.pa C.F0 F C.H0 (upd H q (.lst [.int x', .int y', .int z'])) := by
    refine ⟨fun b u e n g => ?_, S.h0.gn, fun b e => ?_⟩
    · rw [upd_ne (fun w => n (by rw [w, hq]))]
      exact S.h0.ke b u e n g
    · by_cases w : b = q
      · rw [w, upd_same]; simp
      · rw [upd_ne w]; exact S.h0.dm b e
  refine ⟨Sub.updR S.sub hf, S.f0, hk, S.nw, S.len, fun i v s e1 e2 => ?_, S.apart, fun r e => ?_, fun b hb => ?_, S.cs.grow (Same.refl F) (fun _ _ e => e) fun a k u e1 e2 => by rw [upd_ne (ne_of_none e1 hf)]; exact e2⟩
  · have r := S.env i v s e1 e2
    cases s with
    | no => cases v <;> trivial
    | fr d =>
      cases v with
      | none => exact r.elim
      | some v => exact r
    | own fs =>
      cases v with
      | none => exact r.elim
      | some v =>
        obtain ⟨b, zs, rfl, hb, hfb, h0b, npb, rb, nhb⟩ := r
        have ne : b ≠ q := fun w => npb (by rw [w, hq])
        exact ⟨b, zs, rfl, by rw [upd_ne ne]; exact hb, hfb, h0b, npb, rb, nhb⟩
  · have er : r = q := by rw [hq] at e; exact (Option.some.inj e).symm
    subst er
    exact ⟨hf, x', y', upd_same, h0, h1, h2, h3⟩
  · obtain ⟨a1, ⟨u, a2⟩, a3⟩ := S.hd b hb
    have ne : b ≠ q := fun w => a3 (by rw [w, hq])
    exact ⟨a1, ⟨u, by rw [upd_ne ne]; exact a2⟩, a3⟩
def ePz (i k : Nat) : E D := fun ρ Q _ z => match ρ[i]? with
  | some (.fr .cel) => (match k with
    | 0 => ∀ x : Int, 0 ≤ x → Q (.int x) ρ z
    | 1 => ∀ y : Int, 0 ≤ y → y < 10 ^ 24 + 7 → Q (.int y) ρ z
    | 2 => 0 ≤ z.n → Q (.int z.n) ρ z
    | _ => False)
  | _ => False
theorem xe_pz (i k : Nat) {j : Nat} {pc : Pos} (hK : X.K = C.K) (hv : PE X (.Name x p) (tVar i)) (hs : PlainIx (.Constant (.int (k : Nat)) j pc)) : XE X C W (.Subscript (.Name x p) (.Constant (.int (k : Nat)) j pc) pos) (ePz i k) := by
  refine ⟨_, pe_ix ix_seq hv pe_int hs, fun σ ρ F H z Qd Xd Q S hm hq hx => ?_⟩
  unfold ePz at hm
  cases e0 : ρ[i]? with
  | none => rw [e0] at hm; exact hm.elim
  | some s =>
    rw [e0] at hm
    obtain ⟨w, e1, r⟩ := st_get S e0
    cases s with
    | no => exact hm.elim
    | own ds0 => exact hm.elim
    | fr d =>
      cases w with
      | none => exact r.elim
      | some w =>
        cases d with
        | cel =>
          have r' : C.R F w .cel := r
          cases r' with
          | @cel q eq =>
            obtain ⟨hf, x', y', hH, g1, g2, g3, g4⟩ := S.pz q eq
            refine ⟨_, e1, ?_⟩
            match k with
            | 0 => exact .inl ⟨q, [.int x', .int y', .int z.n], ((0 : Nat) : Int), .int x', rfl, rfl, .inl (.inl hH), rfl, S.same (R := kR C) (hm x' g1) (.int _) hq⟩
            | 1 => exact .inl ⟨q, [.int x', .int y', .int z.n], ((1 : Nat) : Int), .int y', rfl, rfl, .inl (.inl hH), rfl, S.same (R := kR C) (hm y' g2 g3) (.int _) hq⟩
            | 2 => exact .inl ⟨q, [.int x', .int y', .int z.n], ((2 : Nat) : Int), .int z.n, rfl, rfl, .inl (.inl hH), rfl, S.same (R := kR C) (hm g4) (.int _) hq⟩
            | k + 3 => exact hm.elim
        | _ => exact hm.elim
def sPz (i k : Nat) (m : E D) : E Fl := fun ρ Q X z => match ρ[i]? with
  | some (.fr .cel) => m ρ (fun d ρ' z' => match d with
    | .int v => ρ'[i]? = some (.fr .cel) ∧ (match k with
      | 0 => 0 ≤ v ∧ Q .nx ρ' z'
      | 2 => 0 ≤ v ∧ Q .nx ρ' { z' with n := v }
      | _ => False)
    | _ => False) X z
  | _ => False
theorem xs_pz (i k : Nat) {j : Nat} {pc : Pos} {mv : E D} {v : Expr} (hv : PE X (.Name x p) (tVar i)) (ha : XE X C W v mv) (hs : swapsWithSole [.Subscript (.Name x p) (.Constant (.int (k : Nat)) j pc) p1] v pos.line X.env = pure false := by rfl) (hw : swappedStores [.Subscript (.Name x p) (.Constant (.int (k : Nat)) j pc) p1] v X.env = pure none := by rfl)
    (hset : ∀ w, assign (.Subscript (.Name x p) (.Constant (.int (k : Nat)) j pc) p1) X.env w = (do
      let ov ← holding [w] (eval (.Name x p) X.env)
      let iv ← holding [w, ov] (eval (.Constant (.int (k : Nat)) j pc) X.env)
      standAt p1
      holding [w, ov, iv] (setItem ov iv w)
      release [w, ov, iv] []) := by intro _; rfl)
    (h1 : (assignEach [.Subscript (.Name x p) (.Constant (.int (k : Nat)) j pc) p1] X.env).map (·.2) = [assign (.Subscript (.Name x p) (.Constant (.int (k : Nat)) j pc) p1) X.env] := by rfl) :
    XS X C W (.Assign [.Subscript (.Name x p) (.Constant (.int (k : Nat)) j pc) p1] v pos) (sPz i k mv) := by
  obtain ⟨t, t1, t2⟩ := ha.ex
  refine ⟨_, ps_asg t1 (pg_sub hv pe_int set_list hset) hs hw h1, fun σ ρ F H z Qd Xd Dn S hm hq hx => ?_⟩
  unfold sPz at hm
  cases e0 : ρ[i]? with
  | none => rw [e0] at hm; exact hm.elim
  | some s =>
    rw [e0] at hm
    obtain ⟨w, e1, r⟩ := st_get S e0
    cases s with
    | no => exact hm.elim
    | own ds0 => exact hm.elim
    | fr d =>
      cases w with
      | none => exact r.elim
      | some w =>
        cases d with
        | cel =>
          have r' : C.R F w .cel := r
          cases r' with
          | @cel q eq =>
            refine t2 σ ρ F H z _ Xd (fun y H1 => gSub (tVar i) (tC (.int (k : Nat))) rSetL y σ H1 Dn.nx) S hm (fun d ρ1 z1 v F1 H1 q1 S1 ff1 k1 o1 r1 => ?_) (fun e ρ' z' cls dd F' H' q S' ff r => hx e ρ' z' cls dd σ F' H' q S' ff r)
            cases d with
            | int n =>
              obtain ⟨hi, q1⟩ := q1
              cases r1
              obtain ⟨hf, x', y', hH, g1, g2, g3, g4⟩ := S1.pz q eq
              refine ⟨_, e1, ?_⟩
              match k with
              | 0 => exact ⟨q, _, ((0 : Nat) : Int), 0, rfl, rfl, hH, rfl, hq .nx _ z1 F1 _ q1.2 ff1 σ (S1.pzSet eq q1.1 g2 g3 g4)⟩
              | 2 => exact ⟨q, _, ((2 : Nat) : Int), 2, rfl, rfl, hH, rfl, hq .nx _ _ F1 _ q1.2 ff1 σ (S1.pzSet eq g1 g2 g3 q1.1)⟩
              | 1 => exact q1.elim
              | k + 3 => exact q1.elim
            | _ => exact q1.elim
        | _ => exact hm.elim

/-! ## f(purse(..)): a def on a purse of its own -/
theorem StOk.growX {σ : L2.St} {ρ : Rho} {F F' H H' : Hp} {z : Zs} {q : Addr} (S : StOk C σ ρ F H z) (hp : C.pa = none) (hq0 : C.H0 q = none) (no : ∀ (i : Nat) ys, ρ[i]? = some (.own ys) → σ[i]? ≠ some (some (.ref q))) (nh : q ∉ C.hid)
    (ff : Same F F') (sub : Sub F' H') (hk : Keep (some q) F F' H H') (nw : ∀ b, F' b ≠ none → F b = none → H b = none) (hz : z.cs = []) : StOk C σ ρ F H' z := by
  have nE : ∀ {b : Addr}, b ≠ q → some b ≠ some q := fun {b} n e => n (Option.some.inj e)
  have ng : ∀ b k, F b ≠ some (gh k) := fun b k e => by
    have := S.cs.lt b k e
    rw [hz] at this
    exact absurd this (Nat.not_lt_zero _)
  have hk0 : Keep C.pa C.F0 F C.H0 H' := by
    refine ⟨fun b u e n g => ?_, S.h0.gn, fun b e => hk.dm b (S.h0.dm b e)⟩
    exact hk.ke b u (S.h0.ke b u e n g) (nE (ne_of_none e hq0)) (ng b)
  refine ⟨ff.subT sub, S.f0, hk0, S.nw, S.len, fun i v s e1 e2 => ?_, S.apart, fun r e => ?_, fun b hb => ?_, ?_⟩
  · have h := S.env i v s e1 e2
    cases s with
    | no => cases v <;> trivial
    | fr d =>
      cases v with
      | none => exact h.elim
      | some v => exact h
    | own ds =>
      cases v with
      | none => exact h.elim
      | some v =>
        obtain ⟨a, xs, rfl, ha, hf, h0, np, r, nh'⟩ := h
        have ne : a ≠ q := fun w => no i ds e2 (by rw [e1, w])
        exact ⟨a, xs, rfl, hk.ke a _ ha (nE ne) (nog hf), hf, h0, np, r, nh'⟩
  · rw [hp] at e; cases e
  · obtain ⟨h1, ⟨o, h2⟩, h3⟩ := S.hd b hb
    have ne : b ≠ q := fun w => nh (by rw [← w]; exact hb)
    exact ⟨h1, ⟨o, hk.ke b o h2 (nE ne) (nog h1)⟩, h3⟩
  · refine ⟨fun k c e => ?_, fun a k e => absurd e (ng a k), fun a b k e => absurd e (ng a k)⟩
    rw [hz] at e
    simp at e
def fRight (m : List D → E0 D) : List D → E D
  | [.int x, .int y, .int 0] => fun ρ Q _ z => (0 ≤ x ∧ 0 ≤ y ∧ y < 10 ^ 24 + 7 ∧ z.cs = []) ∧ m [.cel] (fun d _ => ∃ b, d = .bl b ∧ Q (.bl b) ρ z) (fun _ _ => False) {}
  | _ => eStuck
theorem xe_right {f : Addr} {fd : FuncData} {ps : List Str} {j : Nat} {m : List D → E0 D} {mo : E (List D)} (hp : C.pa = none) (G : GF X x j f fd ps (spF X.K X.mg 1 m)) (kx : Kx X C W k) (hj : j ≤ k) (hb : BG X.K fd ps [] 1 gL gL) (hg : Gl X x)
    (ha : XO X C W e mo) (h1 : S1 X e := by rfl) (hdb : (x == ("__debug__" : Str)) = false := by decide) (hpl : (backTo pos (starEach [] X.env)).any (·.1) = false := by rfl) :
    XE X C W (.Call (.Name x p) [e] [] pos) (eb mo (fRight m)) := by
  obtain ⟨t, t1, t2⟩ := ha.ex
  refine ⟨_, pe_cg G kx hj hb hg (pa1 t1 h1) hdb h1 hpl, fun σ ρ F H z Qd Xd Q S hm hq hx => ?_⟩
  refine t2 σ ρ F H z _ Xd (fun v H1 => ([v] : List V).length = 1 ∧ ([] : List V).length = 0 ∧ spF X.K X.mg 1 m (gL [v] []) H1 Q (WE W σ)) S hm (fun ds ρ1 z1 v F1 H1 q1 S1 ff1 k1 o1 ⟨q, xs, e1, e2, e3, e4, e5, e6⟩ => ?_) hx
  subst e1
  unfold fRight at q1
  split at q1
  · rename_i x y _
    obtain ⟨⟨g1, g2, g3, g4⟩, q1⟩ := q1
    cases e6 with | cons r1 e6 =>
    cases e6 with | cons r2 e6 =>
    cases e6 with | cons r3 e6 =>
    cases e6
    cases r1
    cases r2
    cases r3
    have ng : ∀ b k, F1 b ≠ some (gh k) := fun b k e => by
      have := S1.cs.lt b k e
      rw [g4] at this
      exact absurd this (Nat.not_lt_zero _)
    refine ⟨rfl, rfl, rfl, some q, F1, {}, [.cel], _, _, S1.sub, ⟨fun r er => ?_, fun k c e => by simp at e, fun a k e => absurd e (ng a k), fun a b k e => absurd e (ng a k)⟩, .cons (.cel rfl) .nil, q1, fun d z' v F' H' q2 a r => ?_, fun e z' cls dd F' H' q2 => q2.elim⟩
    · cases er
      exact ⟨e3, x, y, e2, g1, g2, g3, Int.le_refl 0⟩
    · obtain ⟨b, rfl, q2⟩ := q2
      cases r
      have S2 : StOk C σ ρ1 F1 H' z1 := S1.growX (q := q) hp (S.h0None e4 (by rw [hp]; simp)) (S.notOwn e4 o1) (S.notHid e4) a.1 a.2.1 a.2.2.1 a.2.2.2.1 g4
      refine hq _ ρ1 z1 _ F1 H' q2 S2 ff1 ⟨fun b u eb n g => ?_, k1.gn, fun b e => a.2.2.1.dm b (k1.dm b e)⟩ o1 (.bl b)
      exact a.2.2.1.ke b u (k1.ke b u eb n g) (fun w => by rw [Option.some.inj w, e4] at eb; cases eb) (ng b)
  · exact False.elim q1
end
end DL

namespace DL
open PySem PySem.Spec PyProof.Rows L2

/-! ## the law's end, for defs that ask that no repr is under way -/
/-- a def that no purse reaches -/
def spL (K : PySem.W.Frag) (mg : Str → Option Value) (n : Nat) (m : List D → E0 D) : Sp := fun vs H Q E => vs.length = n ∧ ∃ (F : Hp) (z : Zs) (ds : List D) (Qd : D → Zs → Prop) (Xd : Er → Zs → Prop),
  Sub F H ∧ CsOk K mg none F H z.cs ∧ RpL K mg none F vs ds ∧ m ds Qd Xd z ∧ (∀ d z' v F' H', Qd d z' → Aft K mg none F H F' H' z' → Rp K mg none F' v d → Q v H') ∧
  (∀ e z' cls dd F' H', Xd e z' → Aft K mg none F H F' H' z' → ExR ⟨K, mg, none, F, H, []⟩ F' H' e cls dd → E cls dd H')
theorem fnL_of {P : Program} {w : World} {K : PySem.W.Frag} {mg : Str → Option Value} {base : Heap} {k : Nat} {f : Addr} {x qual : Str} {params : Arguments} {body : List Stmt} {scope : Scope} {dvs : List V} {kws : List (Str × V)} {fd : FuncData} {N ps : List Str} {st : E Fl}
    (F : FunD K x qual params body scope dvs kws f fd) (S : FnScope N ps scope)
    (hbody : ∀ (cdv : Value) (A : Around) (outer : List PySem.Env) (s : Shared) (H : Hp) (E : XK) (F0 : Hp), Kx (cxG P w K mg base N qual scope f cdv A outer s H E) ⟨K, mg, none, F0, H, []⟩ (wE E) k →
      XSs (cxG P w K mg base N qual scope f cdv A outer s H E) ⟨K, mg, none, F0, H, []⟩ (wE E) body st) : FnG P w K mg base (k + 1) f fd ps (spL K mg ps.length (dF N.length st)) := by
  refine fnG_of F S (fun vs H Q E h => h.1) fun cdv A outer s H vs Q E hg hr h => ?_
  obtain ⟨hl, F0, z, ds, Qd, Xd, sub, cs, r, hm, hq, hx⟩ := h
  obtain ⟨t, h1, h2⟩ := (hbody cdv A outer s H E F0 (kx_of S hg hr)).ex
  have hn : vs.length ≤ N.length := by have := congrArg List.length S.pre; rw [List.length_take] at this; omega
  have pz : PC K mg none F0 H z := ⟨(fun p e => by cases e), cs⟩
  refine ⟨t, h1, h2 (L2.start N vs) (rho0 N.length ds) F0 H z (outF Qd) (fun e _ z => Xd e z) _ (start_ok sub pz r hn) hm (fun fl ρ' z' F' H' q ff => ?_) fun e ρ' z' cls dd σ' F' H' q S' ff r' => hx e z' cls dd F' H' q S'.aft r'⟩
  cases fl with
  | nx => exact fun σ S' => hq _ _ _ _ _ q S'.aft .non
  | ret d => exact fun σ v S' rv => hq _ _ _ _ _ q S'.aft rv
  | retO d =>
    intro σ v S' ⟨a, xs, e1, e2, e3, e4, e5, e6, _⟩
    subst e1
    exact hq _ _ _ _ _ q (S'.frzAny e2 e3 e4 e5) (.lst e5 upd_same (RpL.mono (Same.new e3) e6))
  | bk => exact False.elim q
  | ct => exact False.elim q
section
variable {P : Program} {w : World} {K : PySem.W.Frag} {mg mb : Str → Option Value} {k : Nat} {fa a : Addr} {fd : FuncData} {x : Str} {s1 : Shared} {vs : List Value} {ns : List Int} {m : List D → E0 D}
/-- the law's promise from its mirror -/
theorem sp_of {H : Hp} (hS : SqL K H a (ns.map V.int)) (hn : ∀ b k, H b ≠ some (gh k)) (hm : m [.scr ns] (fun d _ => d = .bl true) (fun _ _ => False) {}) : spL K mg 1 m [.ref a] H (fun v _ => v = .bl true) (fun _ _ _ => False) :=
  ⟨rfl, H, {}, [.scr ns], _, _, fun _ _ e _ => e, ⟨fun k c e => by simp at e, fun a k e => absurd e (hn a k), fun a b k e => absurd e (hn a k)⟩, .cons (.scr hS) .nil, hm, fun d z' v F' H' q a r => by subst q; cases r; rfl, fun e z' cls dd F' H' q _ _ => q⟩
theorem law_end (KX : K.In s1.heap) (hns : s1.heap.Ns mainGlobals mg) (hb : s1.heap.Ns builtinsNs mb) (hbb : ∀ x : Str, x ≠ "__name__" → mb x = bootBuiltins x) (hlim : s1.heap.NoLimit) (hg : s1.gens = #[])
    (ha : s1.heap.get? a = some { cls := .type "list", data := .seq vs.toArray }) (hi : IntsAre vs ns) (hl : ns.length ≤ sizeLine) (hr : Room k callerA) (gu : callerA.guards = some [])
    (F : ∀ base : Heap, K.In base → base.Ns mainGlobals mg → FnG P w K mg base k fa fd [x] (spL K mg 1 m)) (hbind : ∀ (s : Shared) (u : Value), BindsTo s fd ⟨[u], []⟩ [(x, u)])
    (hm : m [.scr ns] (fun d _ => d = .bl true) (fun _ _ => False) {}) :
    codeAny (model P w) callerA (.call (.ref fa) ⟨[.ref a], []⟩) (fun r s' => r = .ok (.ret (.bool true)) ∧ OldK s1.heap s'.heap ∧ s'.os = s1.os ∧ AllBare s'.gens) s1 := by
  have rv := vals_ints hi
  have lv := hi.length
  let so : Obj := { cls := .type "list", data := .seq vs.toArray }
  -- H tracks the script at most
  have main : ∀ H : Hp, (∀ b u, H b = some u → b = a ∧ u = .frz so (.lst (ns.map V.int)) ∧ K.lookup a = none) → SqL K H a (ns.map V.int) → HOk P w H s1.heap →
      codeAny (model P w) callerA (.call (.ref fa) ⟨[.ref a], []⟩) (fun r s' => r = .ok (.ret (.bool true)) ∧ OldK s1.heap s'.heap ∧ s'.os = s1.os ∧ AllBare s'.gens) s1 := by
    intro H hH hS hok
    have hd : ∀ {b : Addr} {o : Obj}, s1.heap.get? b = some o → (∀ h : b = a, False) ∨ H b = none → (hidT s1.heap H).get? b = some o := fun {b o} e h => by
      refine hidT_get e ?_
      rcases h with h | h
      · cases q : H b with
        | none => rfl
        | some u => exact (h (hH b u q).1).elim
      · exact h
    have nsB : ∀ {b : Addr} {f : Str → Option Value}, s1.heap.Ns b f → (hidT s1.heap H).Ns b f := fun {b f} n => by
      obtain ⟨o, es, ep, e, d, r⟩ := n
      refine ⟨o, es, ep, hd e (.inl fun h => ?_), d, r⟩
      subst h
      rw [ha] at e
      cases e
      cases (show Data.seq vs.toArray _ = Data.dict es ep from d)
    have KB : K.In (hidT s1.heap H) := fun b o e => hd (KX b o e) (.inr (by
      cases q : H b with
      | none => rfl
      | some u =>
        obtain ⟨h1, _, h3⟩ := hH b u q
        rw [h1, h3] at e
        cases e))
    obtain ⟨mc, l1, l2⟩ := hlim
    have M : Mod K mg (hidT s1.heap H) := ⟨KB, nsB hns, ⟨mb, nsB hb, hbb⟩, ⟨mc, nsB l1, l2⟩⟩
    have e0 : Env0 P w K mg (hidT s1.heap H) callerA [] s1 H := ⟨rfl, M, fun b o e => of_hidT e, Nat.le_of_eq (hidT_size _ _), trivial, (fun b hb => by cases hb), hok, .of_eq hg⟩
    have run := (F _ KB (nsB hns)).run callerA [] s1 H ⟨[.ref a], []⟩ [.ref a] [.ref a] _ _ gu hr e0 (hbind s1 (.ref a)) (.cons rfl .nil) (sp_of hS (fun b k e => by have := (hH b _ e).2.1; cases this) hm)
    refine codeAny_mono run ?_
    intro r s' h
    match r with
    | .error e =>
      obtain ⟨_, _, _, _, _, _, _, _, _, _, _, _, hw⟩ := h
      exact False.elim hw
    | .ok .next => exact h.elim
    | .ok .brk => exact h.elim
    | .ok .cont => exact h.elim
    | .ok (.ret u) =>
      obtain ⟨v, H', os, bare, un, hok', r', q⟩ := h
      obtain rfl : v = .bl true := q
      obtain rfl : u = Value.bool true := r'
      refine ⟨rfl, OldK.of_keep fun b o e => ?_, os, bare⟩
      cases q : H b with
      | none => exact un.keep b o e q (fun z => by cases z) (fun z => by cases z)
      | some u =>
        obtain ⟨_, rfl, _⟩ := hH b u q
        have e1 := (hok b _ q).1
        have e2 := (hok' b _ (un.frzs b so _ q)).1
        rw [e] at e1
        cases e1
        exact e2
  cases hk : K.lookup a with
  | some o =>
    have e := KX a o hk
    rw [ha] at e
    cases e
    exact main (fun _ => none) (fun b u z => by cases z) (.inr ⟨_, vs.toArray, _, hk, rfl, rfl, rfl, by rw [List.size_toArray, lv]; exact hl, by simpa using rv⟩) (fun b u z => by cases z)
  | none =>
    let H : Hp := fun b => if b = a then some (.frz so (.lst (ns.map V.int))) else none
    have hH : ∀ b u, H b = some u → b = a ∧ u = .frz so (.lst (ns.map V.int)) := fun b u z => by
      by_cases q : b = a
      · exact ⟨q, (Option.some.inj ((if_pos q).symm.trans z)).symm⟩
      · cases (if_neg q).symm.trans z
    refine main H (fun b u z => ⟨(hH b u z).1, (hH b u z).2, hk⟩) (.inl (.inr ⟨so, if_pos rfl⟩)) fun b u z => ?_
    obtain ⟨rfl, rfl⟩ := hH b u z
    exact ⟨ha, by rw [List.length_map]; exact hl, vs, _, rv, ha⟩
end
/-- the goal that the head leaves -/
theorem walk_end {l : PySem.W.OpenLaw} {n k : Nat} {q : Program} {loose : List Str} {XP : (Str → Option Value) → Heap → Prop} {YP : World → Heap → Prop} {d : DefRec} {x : Str} {m : List D → E0 D}
    (hn : l.most = some n) (hn2 : n ≤ sizeLine) (hdf : d.params.defaults = []) (hr : Room k callerA) (gu : callerA.guards = some [])
    (F : ∀ (w : World) (mg : Str → Option Value) (fa : Addr) (h : Heap), YP w h → h.Ns mainGlobals mg → mg d.name = some (.ref fa) →
      ∃ (K : PySem.W.Frag) (fd : FuncData), K.In h ∧ (∀ (s : Shared) (u : Value), BindsTo s fd ⟨[u], []⟩ [(x, u)]) ∧
        ∀ base : Heap, K.In base → base.Ns mainGlobals mg → FnG l.prog w K mg base k fa fd [x] (spL K mg 1 m))
    (hm : ∀ ns : List Int, ns.length ≤ n → m [.scr ns] (fun d _ => d = .bl true) (fun _ _ => False) {}) :
    PySem.W.WalkO q loose XP YP l.row.toRowW d [] (fun f vs => PySem.call f vs) := by
  apply Att.attach_call hn hdf
  intro w s0 s1 mg mb fa o pm cd doc a vs ns G Y ho hd hcd hmg hobj hints hlen hg
  obtain ⟨K, fd, KX, hb, hF⟩ := F w mg fa _ Y G.T.g hmg
  exact law_end KX G.T.g G.T.b G.T.builtins G.T.nolimit hg hobj hints (Nat.le_trans hlen hn2) hr gu hF hb (hm ns hlen)

/-! ## names for what the printed mirrors hold -/
abbrev bO (f : P2) (ma mb : E D) : E D := eb ma fun x => eb mb fun y => eP (f x y)
abbrev bC (ma mb : E D) : E (List D) := eb ma fun x => eb mb fun y => eP (dCat x y)
abbrev uO (f : P1) (ma : E D) : E D := eb ma fun x => eP (f x)
abbrev aN : E (List D) := ep []
abbrev aC (m : E D) (ms : E (List D)) : E (List D) := eb m fun d => eb ms fun ds => ep (d :: ds)
abbrev tV (m : E D) : E Bool := eb m fun x => eP (dTru x)
abbrev tN (m : E Bool) : E Bool := eb m fun t => ep (!t)
abbrev oP (m : E (List D)) : E D := eb m fun ds => ep (.lst ds)
/-- values put in the parameters' order -/
def pick {α : Type} (ix : List Nat) (l : List α) : List α := ix.filterMap fun i => l[i]?
theorem valsAt : ∀ {vs : List V} {us : List Value} (i : Nat), Vals vs us → (∃ v u, vs[i]? = some v ∧ us[i]? = some u ∧ RelV v u) ∨ (vs[i]? = none ∧ us[i]? = none)
  | _, _, _, .nil => .inr ⟨rfl, rfl⟩
  | _, _, 0, .cons r t => .inl ⟨_, _, rfl, rfl, r⟩
  | _, _, i + 1, .cons r t => by simpa using valsAt i t
theorem pick_vals {vs : List V} {us : List Value} (h : Vals vs us) : ∀ ix : List Nat, Vals (pick ix vs) (pick ix us)
  | [] => .nil
  | i :: r => by
    have ih := pick_vals h r
    unfold pick at ih ⊢
    rcases valsAt i h with ⟨v, u, e1, e2, rr⟩ | ⟨e1, e2⟩
    · rw [List.filterMap_cons, List.filterMap_cons, e1, e2]
      exact .cons rr ih
    · rw [List.filterMap_cons, List.filterMap_cons, e1, e2]
      exact ih
theorem pick_rpl {K : PySem.W.Frag} {mg : Str → Option Value} {pa : Option Addr} {F : Hp} {vs : List V} {ds : List D} (h : RpL K mg pa F vs ds) : ∀ ix : List Nat, RpL K mg pa F (pick ix vs) (pick ix ds)
  | [] => .nil
  | i :: r => by
    have ih := pick_rpl h r
    unfold pick at ih ⊢
    cases e : ds[i]? with
    | none =>
      have e2 : vs[i]? = none := by
        rw [List.getElem?_eq_none_iff] at e ⊢
        rw [RpL.length h]
        exact e
      rw [List.filterMap_cons, List.filterMap_cons, e, e2]
      exact ih
    | some d =>
      obtain ⟨v, e2, rr⟩ := RpL.get h e
      rw [List.filterMap_cons, List.filterMap_cons, e, e2]
      exact .cons rr ih
abbrev gP {α : Type} (ix : List Nat) : List α → List α → List α := fun a b => pick ix (a ++ b)
/-- keywords in any order, no defaults -/
theorem bg_kw {K : PySem.W.Frag} {x qual : Str} {params : Arguments} {body : List Stmt} {scope : Scope} {kws : List (Str × V)} {f : Addr} {fd : FuncData} {ps ks : List Str} (F : FunD K x qual params body scope [] kws f fd) (n : Nat) (ix : List Nat)
    (h : ∀ (kV doc pm : Value) (an : Option Addr) (cdv ct : Value) (us ws : List Value), us.length = n → ws.length = ks.length → bindArgs (PySem.W.fnOf x qual params body scope .none kV doc pm an cdv ct) ⟨us, ks.zip ws⟩ = pure (ps.zip (pick ix (us ++ ws)))) : BG K fd ps ks n (gP ix) (gP ix) := by
  obtain ⟨oc, od, dV, kV, doc, pm, an, cdv, ct, osl, rfl, lk, hcd, hD, hK⟩ := F.ex
  rcases hD with ⟨_, rfl⟩ | ⟨e, _⟩
  · exact ⟨fun s us ws X l1 l2 => ⟨_, .of_eq (h kV doc pm an cdv ct us ws l1 l2), fun vs zs r1 r2 => pick_vals (r1.append r2) ix⟩, fun mg pa F vs ds zs es r1 r2 => pick_rpl (RpL.append r1 r2) ix⟩
  · exact absurd rfl e
/-- a def of the module, as callers use it -/
structure GFn (P : Program) (w : World) (K : PySem.W.Frag) (mg : Str → Option Value) (base : Heap) (x : Str) (j : Nat) (f : Addr) (fd : FuncData) (ps : List Str) (sp : Sp) : Prop where
  fn : FnG P w K mg base j f fd ps sp
  mg : mg x = some (.ref f)
  kp : PySem.W.keepIn K (.ref f) = true
  bg : BG K fd ps [] ps.length gL gL
theorem GFn.g {X : Cx} {x : Str} {j : Nat} {f : Addr} {fd : FuncData} {ps : List Str} {sp : Sp} (h : GFn X.prog X.w X.K X.mg X.base x j f fd ps sp) : GF X x j f fd ps sp := ⟨h.fn, h.mg, h.kp⟩

/-! ## the head's facts, and a Bool of one's own -/
abbrev AlE : Type := He.AlD × Bool
def obsE (n : Nat) (fa : List He.Fa) (fn : List He.DefD) (ex : PySem.W.Frag → Bool) (g : Addr → Option Obj) : AlE := (He.obsD fa fn (He.frG g (PySem.cStatics :: He.asD g n)), ex (He.frG g (PySem.cStatics :: He.asD g n)))
def SaysE (fa : List He.Fa) (fn : List He.DefD) (ex : PySem.W.Frag → Bool) (K : PySem.W.Frag) : Prop := He.SaysD fa fn K ∧ ex K = true
def hookE (n : Nat) (fa : List He.Fa) (fn : List He.DefD) (ex : PySem.W.Frag → Bool) : PySem.W.Hook where
  α := AlE
  obs := fun s => obsE n fa fn ex s.heap.get?
  val := fun _ => (He.valD fn, true)
  says := fun _ h => ∃ K : PySem.W.Frag, K.In h ∧ SaysE fa fn ex K
  of := fun _ _ e => ⟨_, He.frG_in, congrArg (fun z : AlE => z.1) e, congrArg (fun z : AlE => z.2) e⟩
  keeps := fun _ _ _ ⟨K, hK, c⟩ k => ⟨K, PySem.W.Frag.In.keeps hK k, c⟩
theorem obsE_eq {n : Nat} {fa : List He.Fa} {fn : List He.DefD} {ex : PySem.W.Frag → Bool} {g : Addr → Option Obj} {s : Shared} (h : ∀ a, g a = s.heap.get? a) : obsE n fa fn ex g = (hookE n fa fn ex).obs s := by
  have e : g = s.heap.get? := funext h
  rw [e] <;> rfl
end DL

namespace DL
open PySem PySem.Spec PyProof.Rows L2

/-! ## running a mirror: one step a lemma -/
section
variable {α β : Type} (ρ : Rho) (Qd : D → Rho → Zs → Prop) (Qb : Bool → Rho → Zs → Prop) (Ql : List D → Rho → Zs → Prop) (Qf : Fl → Rho → Zs → Prop) (Qo : Option Int → Rho → Zs → Prop) (X : Er → Rho → Zs → Prop) (z : Zs)
variable (m ma mb : E D) (ml mk : E (List D)) (mt m1 m2 : E Bool) (s s1 s2 : E Fl) (i j k n : Nat)
@[simp] theorem eb_a (m : E α) (f : α → E β) (Q : β → Rho → Zs → Prop) : eb m f ρ Q X z = m ρ (fun a ρ' z' => f a ρ' Q X z') X z := propext Iff.rfl
@[simp] theorem ep_a (a : α) (Q : α → Rho → Zs → Prop) : ep a ρ Q X z = Q a ρ z := propext Iff.rfl
@[simp] theorem eP_a (p : (α → Prop) → Prop) (Q : α → Rho → Zs → Prop) : eP p ρ Q X z = p fun a => Q a ρ z := propext Iff.rfl
@[simp] theorem eT_a : eT m ρ Qb X z = m ρ (fun d ρ' z' => fT d ρ' Qb X z') X z := propext Iff.rfl
@[simp] theorem fT_a (b : Bool) : fT (.bl b) ρ Qb X z = Qb b ρ z := propext Iff.rfl
@[simp] theorem eIf_a (a b : E α) (Q : α → Rho → Zs → Prop) : eIf mt a b ρ Q X z = mt ρ (fun t ρ' z' => (if t = true then a else b) ρ' Q X z') X z := propext Iff.rfl
@[simp] theorem eAnd_a : eAnd m1 m2 ρ Qb X z = m1 ρ (fun t ρ' z' => (if t = true then m2 else ep false) ρ' Qb X z') X z := propext Iff.rfl
@[simp] theorem eOr_a : eOr m1 m2 ρ Qb X z = m1 ρ (fun t ρ' z' => (if t = true then ep true else m2) ρ' Qb X z') X z := propext Iff.rfl
@[simp] theorem eAndV_a : eAndV ma mb ρ Qd X z = ma ρ (fun d ρ' z' => fAndV mb d ρ' Qd X z') X z := propext Iff.rfl
@[simp] theorem eOrV_a : eOrV ma mb ρ Qd X z = ma ρ (fun d ρ' z' => fOrV mb d ρ' Qd X z') X z := propext Iff.rfl
@[simp] theorem eTup_a : eTup ml ρ Qd X z = ml ρ (fun ds ρ' z' => ds.length ≤ 16777216 ∧ Qd (.tup ds) ρ' z') X z := propext Iff.rfl
@[simp] theorem eLst_a : eLst ml ρ Ql X z = ml ρ (fun ds ρ' z' => ds.length ≤ 16777216 ∧ Ql ds ρ' z') X z := propext Iff.rfl
@[simp] theorem eCall_a (n n1 n2 : Nat) (f : List D → E0 α) (gD : List D → List D → List D) (Q : α → Rho → Zs → Prop) : eCall n n1 n2 f gD ml mk ρ Q X z = ml ρ (fun ds ρ1 z1 => mk ρ1 (fun es ρ2 z2 =>
  ds.length = n1 ∧ es.length = n2 ∧ (gD ds es).length = n ∧ f (gD ds es) (fun a z' => Q a ρ2 z') (fun e z' => X e ρ2 z') z2) X z1) X z := propext Iff.rfl
@[simp] theorem fRight_a (f : List D → E0 D) (x y : Int) : fRight f [.int x, .int y, .int 0] ρ Qd X z = ((0 ≤ x ∧ 0 ≤ y ∧ y < 10 ^ 24 + 7 ∧ z.cs = []) ∧ f [.cel] (fun d _ => ∃ b, d = .bl b ∧ Qd (.bl b) ρ z) (fun _ _ => False) {}) := propext Iff.rfl
@[simp] theorem sSeq_a : sSeq s1 s2 ρ Qf X z = s1 ρ (fun fl ρ' z' => fSeq s2 fl ρ' Qf X z') X z := propext Iff.rfl
@[simp] theorem sIf_a : sIf mt s1 s2 ρ Qf X z = mt ρ (fun t ρ' z' => (if t = true then s1 else s2) ρ' Qf X z') X z := propext Iff.rfl
@[simp] theorem sRet_a : sRet m ρ Qf X z = m ρ (fun d ρ' z' => Qf (.ret d) ρ' z') X z := propext Iff.rfl
@[simp] theorem sRetO_a : sRetO ml ρ Qf X z = ml ρ (fun d ρ' z' => Qf (.retO d) ρ' z') X z := propext Iff.rfl
@[simp] theorem sExpr_a : sExpr m ρ Qf X z = m ρ (fun _ ρ' z' => Qf .nx ρ' z') X z := propext Iff.rfl
@[simp] theorem sAsg_a (tg : Tg) : sAsg m tg ρ Qf X z = m ρ (fun d ρ' z' => tg d ρ' fun ρ'' => Qf .nx ρ'' z') X z := propext Iff.rfl
@[simp] theorem sAsgO_a : sAsgO ml i ρ Qf X z = ml ρ (fun ds ρ' z' => Qf .nx (ρ'.set i (.own ds)) z') X z := propext Iff.rfl
@[simp] theorem sPar_a : sPar i j ml ρ Qf X z = ml ρ (fun ds ρ' z' => match ds with
  | [d1, d2] => Qf .nx ((ρ'.set i (.fr d1)).set j (.fr d2)) z'
  | _ => False) X z := propext Iff.rfl
@[simp] theorem sRaise_a (c : Str) : sRaise c m ρ Qf X z = m ρ (fun d ρ' z' => X (c, d) ρ' z') X z := propext Iff.rfl
@[simp] theorem sTry_a (tbl : Str → Option Bool) (hM : Addr → Addr → Str → E Fl) : sTry i s tbl hM ρ Qf X z = s ρ Qf (fun e ρ' z' => ∃ b, tbl e.1 = some b ∧ if b = true then ∀ a x, hM a x e.1 (ρ'.set i (.fr (.exn a x e.1 e.2))) (dropX i Qf) (fun _ _ _ => False) z' else X e ρ' z') z := propext Iff.rfl
@[simp] theorem sFor_a (tg : Tg) : sFor ml tg s ρ Qf X z = ml ρ (fun ds ρ' z' => forL tg s ds ρ' Qf X z') X z := propext Iff.rfl
@[simp] theorem forL_nil (tg : Tg) : forL tg s [] ρ Qf X z = Qf .nx ρ z := propext Iff.rfl
theorem forL_cons (tg : Tg) (d : D) (ds : List D) : forL tg s (d :: ds) ρ Qf X z = tg d ρ (fun ρ1 => s ρ1 (fun fl ρ2 z2 => forK (forL tg s ds) fl ρ2 Qf X z2) X z) := propext Iff.rfl
theorem whL_succ : whL mt s (n + 1) ρ Qf X z = mt ρ (fun t ρ' z' => (if t = true then (fun ρ Q X z => s ρ (fun fl ρ2 z2 => forK (whL mt s n) fl ρ2 Q X z2) X z) else ep .nx) ρ' Qf X z') X z := propext Iff.rfl
theorem sWhile_a (mb : E Fl) : sWhile mt mb ρ Qf X z = ∃ n, whL mt mb n ρ Qf X z := propext Iff.rfl
@[simp] theorem eLc_a (vs : List Nat) (tg : Tg) (me : E D) : eLc vs ml tg mt me ρ Ql X z = ml ρ (fun ds ρ' z' => lcL vs tg mt me ds [] (wipeR ρ' vs) Ql X z') X z := propext Iff.rfl
@[simp] theorem lcL_nil (vs : List Nat) (tg : Tg) (me : E D) (acc : List D) : lcL vs tg mt me [] acc ρ Ql X z = Ql acc ρ z := propext Iff.rfl
theorem lcL_cons (vs : List Nat) (tg : Tg) (me : E D) (d : D) (ds acc : List D) : lcL vs tg mt me (d :: ds) acc ρ Ql X z = tg d ρ (fun ρ1 => mt ρ1 (fun t ρ2 z2 => if t = true then me ρ2 (fun y ρ3 z3 => acc.length < 16777216 ∧ lcL vs tg mt me ds (acc ++ [y]) (wipeR ρ3 vs) Ql X z3) (fun _ _ _ => False) z2 else lcL vs tg mt me ds acc (wipeR ρ2 vs) Ql X z2) (fun _ _ _ => False) z) := propext Iff.rfl
theorem dF_a (ds : List D) (Q : D → Zs → Prop) (X0 : Er → Zs → Prop) : dF n s ds Q X0 z = s (rho0 n ds) (outF Q) (fun e _ z => X0 e z) z := propext Iff.rfl
theorem dO_a (ds : List D) (Q : List D → Zs → Prop) (X0 : Er → Zs → Prop) : dO n s ds Q X0 z = s (rho0 n ds) (outO Q) (fun e _ z => X0 e z) z := propext Iff.rfl
end
@[simp] theorem eVar_0 (d : D) (ρ : Rho) (Q : D → Rho → Zs → Prop) (X : Er → Rho → Zs → Prop) (z : Zs) : eVar 0 (.fr d :: ρ) Q X z = Q d (.fr d :: ρ) z := propext Iff.rfl
@[simp] theorem eVar_0o (ds : List D) (ρ : Rho) (Q : D → Rho → Zs → Prop) (X : Er → Rho → Zs → Prop) (z : Zs) : eVar 0 (.own ds :: ρ) Q X z = Q (.lst ds) (.fr (.lst ds) :: ρ) z := propext Iff.rfl
@[simp] theorem eVar_s (i : Nat) (s : Sl) (ρ : Rho) (Q : D → Rho → Zs → Prop) (X : Er → Rho → Zs → Prop) (z : Zs) : eVar (i + 1) (s :: ρ) Q X z = eVar i ρ (fun d ρ' z' => Q d (s :: ρ') z') (fun e ρ' z' => X e (s :: ρ') z') z := by
  unfold eVar
  rw [List.getElem?_cons_succ]
  exact propext Iff.rfl
@[simp] theorem ePk_0 (d : D) (ρ : Rho) (Q : D → Rho → Zs → Prop) (X : Er → Rho → Zs → Prop) (z : Zs) : ePk 0 (.fr d :: ρ) Q X z = Q d (.fr d :: ρ) z := propext Iff.rfl
@[simp] theorem ePk_0o (ds : List D) (ρ : Rho) (Q : D → Rho → Zs → Prop) (X : Er → Rho → Zs → Prop) (z : Zs) : ePk 0 (.own ds :: ρ) Q X z = Q (.lst ds) (.own ds :: ρ) z := propext Iff.rfl
@[simp] theorem ePk_s (i : Nat) (s : Sl) (ρ : Rho) (Q : D → Rho → Zs → Prop) (X : Er → Rho → Zs → Prop) (z : Zs) : ePk (i + 1) (s :: ρ) Q X z = ePk i ρ (fun d ρ' z' => Q d (s :: ρ') z') (fun e ρ' z' => X e (s :: ρ') z') z := by
  unfold ePk
  rw [List.getElem?_cons_succ]
section
variable (ρ : Rho) (Qd : D → Rho → Zs → Prop) (Qf : Fl → Rho → Zs → Prop) (X : Er → Rho → Zs → Prop) (z : Zs) (t : Sl) (m ma mb : E D) (i k : Nat)
@[simp] theorem ePz_0 : ePz 0 0 (.fr .cel :: ρ) Qd X z = ∀ x : Int, 0 ≤ x → Qd (.int x) (.fr .cel :: ρ) z := propext Iff.rfl
@[simp] theorem ePz_1 : ePz 0 1 (.fr .cel :: ρ) Qd X z = ∀ y : Int, 0 ≤ y → y < 10 ^ 24 + 7 → Qd (.int y) (.fr .cel :: ρ) z := propext Iff.rfl
@[simp] theorem ePz_2 : ePz 0 2 (.fr .cel :: ρ) Qd X z = (0 ≤ z.n → Qd (.int z.n) (.fr .cel :: ρ) z) := propext Iff.rfl
@[simp] theorem sPz_0 : sPz 0 0 m (.fr .cel :: ρ) Qf X z = m (.fr .cel :: ρ) (fun d ρ' z' => match d with
    | .int v => ρ'[0]? = some (.fr .cel) ∧ (0 ≤ v ∧ Qf .nx ρ' z')
    | _ => False) X z := propext Iff.rfl
@[simp] theorem sPz_2 : sPz 0 2 m (.fr .cel :: ρ) Qf X z = m (.fr .cel :: ρ) (fun d ρ' z' => match d with
    | .int v => ρ'[0]? = some (.fr .cel) ∧ (0 ≤ v ∧ Qf .nx ρ' { z' with n := v })
    | _ => False) X z := propext Iff.rfl
@[simp] theorem sRetV_a : sRetV i (t :: ρ) Qf X z = (match (t :: ρ)[i]? with
  | some (.own ds) => Qf (.retO ds) (t :: ρ) z
  | _ => False) := propext Iff.rfl
@[simp] theorem sApp_a : sApp i m (t :: ρ) Qf X z = (match (t :: ρ)[i]? with
  | some (.own _) => m (t :: ρ) (fun y ρ' z' => match ρ'[i]? with
    | some (.own ds) => ds.length < 16777216 ∧ Qf .nx (ρ'.set i (.own (ds ++ [y]))) z'
    | _ => False) X z
  | _ => False) := propext Iff.rfl
@[simp] theorem sMt0_a (f : List D → List D) : sMt0 i f (t :: ρ) Qf X z = (match (t :: ρ)[i]? with
  | some (.own ds) => Qf .nx ((t :: ρ).set i (.own (f ds))) z
  | _ => False) := propext Iff.rfl
@[simp] theorem sSetI_a : sSetI i ma mb ρ Qf X z = ma ρ (fun y ρ1 z1 => match ρ1[i]? with
  | some (.own _) => mb ρ1 (fun d ρ' z' => match ρ'[i]?, d with
    | some (.own ds), .int k => ∃ j, ixN ds.length k = some j ∧ Qf .nx (ρ'.set i (.own (ds.set j y))) z'
    | _, _ => False) X z1
  | _ => False) X z := propext Iff.rfl
@[simp] theorem eExv_a (a x : Addr) : eExv i a x (t :: ρ) Qd X z = (match (t :: ρ)[i]? with
  | some (.fr (.exn a' x' _ d)) => (a' = a ∧ x' = x) ∧ Qd d (t :: ρ) z
  | _ => False) := propext Iff.rfl
@[simp] theorem eIsX_a (a x : Addr) (nm : Str) (tbl : Str → Option Bool) : eIsX i a x nm tbl (t :: ρ) Qd X z = (match (t :: ρ)[i]? with
  | some (.fr (.exn a' x' nm' _)) => (a' = a ∧ x' = x ∧ nm' = nm) ∧ ∃ b, tbl nm = some b ∧ Qd (.bl b) (t :: ρ) z
  | _ => False) := propext Iff.rfl
end
section
variable (s : E Fl) (d : D) (ds es : List D) (a b : Int) (u v : Bool) (x y : Str) (Q : D → Prop) (QL : List D → Prop) (Qb : Bool → Prop) (ρ : Rho) (z : Zs) (R : D → Zs → Prop) (RL : List D → Zs → Prop) (Qf : Fl → Rho → Zs → Prop) (i : Nat)
@[simp] theorem fSeq_1 : fSeq s .nx = s := funext fun _ => rfl
@[simp] theorem fSeq_2 : fSeq s (.ret d) = ep (.ret d) := funext fun _ => rfl
@[simp] theorem fSeq_3 : fSeq s (.retO ds) = ep (.retO ds) := funext fun _ => rfl
@[simp] theorem fSeq_4 : fSeq s .bk = ep .bk := funext fun _ => rfl
@[simp] theorem fSeq_5 : fSeq s .ct = ep .ct := funext fun _ => rfl
@[simp] theorem forK_1 : forK s .nx = s := funext fun _ => rfl
@[simp] theorem forK_2 : forK s (.ret d) = ep (.ret d) := funext fun _ => rfl
@[simp] theorem forK_3 : forK s (.retO ds) = ep (.retO ds) := funext fun _ => rfl
@[simp] theorem forK_4 : forK s .bk = ep .nx := funext fun _ => rfl
@[simp] theorem forK_5 : forK s .ct = s := funext fun _ => rfl
@[simp] theorem outF_1 : outF R .nx ρ z = R .non z := propext Iff.rfl
@[simp] theorem outF_2 : outF R (.ret d) ρ z = R d z := propext Iff.rfl
@[simp] theorem outF_3 : outF R (.retO ds) ρ z = R (.lst ds) z := propext Iff.rfl
@[simp] theorem outF_4 : outF R .bk ρ z = False := propext Iff.rfl
@[simp] theorem outF_5 : outF R .ct ρ z = False := propext Iff.rfl
@[simp] theorem outO_1 : outO RL .nx ρ z = False := propext Iff.rfl
@[simp] theorem outO_2 : outO RL (.ret d) ρ z = False := propext Iff.rfl
@[simp] theorem outO_3 : outO RL (.retO ds) ρ z = RL ds z := propext Iff.rfl
@[simp] theorem dropX_1 : dropX i Qf .nx ρ z = Qf .nx (ρ.set i .no) z := propext Iff.rfl
@[simp] theorem dropX_2 : dropX i Qf (.ret d) ρ z = Qf (.ret d) ρ z := propext Iff.rfl
@[simp] theorem dropX_3 : dropX i Qf (.retO ds) ρ z = Qf (.retO ds) ρ z := propext Iff.rfl
@[simp] theorem dropX_4 : dropX i Qf .bk ρ z = Qf .bk (ρ.set i .no) z := propext Iff.rfl
@[simp] theorem dropX_5 : dropX i Qf .ct ρ z = Qf .ct (ρ.set i .no) z := propext Iff.rfl
@[simp] theorem gN_a (Qr : Rho → Prop) : gN i d ρ Qr = Qr (ρ.set i (.fr d)) := propext Iff.rfl
@[simp] theorem gNl_a (Qr : Rho → Prop) : gNl [] ρ Qr = Qr ρ := by unfold gNl; simp
@[simp] theorem gCn_a (t : Tg) (u : Tgs) (Qr : Rho → Prop) : gCn t u (d :: ds) ρ Qr = t d ρ fun ρ' => u ds ρ' Qr := propext Iff.rfl
@[simp] theorem gTp_a (n : Nat) (u : Tgs) (Qr : Rho → Prop) : gTp n u (.tup ds) ρ Qr = (ds.length = n ∧ u ds ρ Qr) := propext Iff.rfl
@[simp] theorem gTp_l (n : Nat) (u : Tgs) (Qr : Rho → Prop) : gTp n u (.lst ds) ρ Qr = (ds.length = n ∧ u ds ρ Qr) := propext Iff.rfl
@[simp] theorem dAdd_1 : dAdd (.int a) (.int b) Q = Q (.int (a + b)) := propext Iff.rfl
@[simp] theorem dAdd_2 : dAdd (.str x) (.str y) Q = (x.length + y.length ≤ 16777216 ∧ Q (.str (x ++ y))) := propext Iff.rfl
@[simp] theorem dAdd_3 : dAdd (.tup ds) (.tup es) Q = (ds.length + es.length ≤ 16777216 ∧ Q (.tup (ds ++ es))) := propext Iff.rfl
@[simp] theorem dCat_1 : dCat (.lst ds) (.lst es) QL = (ds.length + es.length ≤ 16777216 ∧ QL (ds ++ es)) := propext Iff.rfl
@[simp] theorem dSub_1 : dSub (.int a) (.int b) Q = Q (.int (a - b)) := propext Iff.rfl
@[simp] theorem dMul_1 : dMul (.int a) (.int b) Q = (MulC a b ∧ Q (.int (a * b))) := propext Iff.rfl
@[simp] theorem dDiv_1 : dDiv (.int a) (.int b) Q = ((b ≠ 0 ∧ b.natAbs.log2 < 9000) ∧ Q (.int (a.fdiv b))) := propext Iff.rfl
@[simp] theorem dMod_1 : dMod (.int a) (.int b) Q = (b ≠ 0 ∧ Q (.int (a.fmod b))) := propext Iff.rfl
@[simp] theorem dPow_1 : dPow (.int a) (.int b) Q = ((0 ≤ b ∧ (Builtin.Int.intBits a : Int) * b ≤ 2 ^ 27) ∧ Q (.int (a ^ b.toNat))) := propext Iff.rfl
@[simp] theorem dEqB_1 : dEqB (.int a) (.int b) Qb = Qb (decide (a = b)) := propext Iff.rfl
@[simp] theorem dEqB_2 : dEqB (.str x) (.str y) Qb = Qb (decide (x = y)) := propext Iff.rfl
@[simp] theorem dEqB_3 : dEqB (.bl u) (.bl v) Qb = Qb (decide (u = v)) := propext Iff.rfl
@[simp] theorem dEqB_4 : dEqB (.tup ds) (.tup es) Qb = dEqG (.tup ds) (.tup es) Qb := propext Iff.rfl
@[simp] theorem dEqB_5 : dEqB (.lst ds) (.lst es) Qb = dEqG (.lst ds) (.lst es) Qb := propext Iff.rfl
@[simp] theorem dEqB_6 : dEqB (.non) (.tup es) Qb = dEqG .non (.tup es) Qb := propext Iff.rfl
@[simp] theorem dEqB_7 : dEqB (.tup ds) .non Qb = dEqG (.tup ds) .non Qb := propext Iff.rfl
@[simp] theorem dEq_1 (p q : D) : dEq p q Q = dEqB p q fun t => Q (.bl t) := propext Iff.rfl
@[simp] theorem dNe_1 (p q : D) : dNe p q Q = dEqB p q fun t => Q (.bl (!t)) := propext Iff.rfl
@[simp] theorem dLt_1 : dLt (.int a) (.int b) Q = Q (.bl (decide (a < b))) := propext Iff.rfl
@[simp] theorem dLe_1 : dLe (.int a) (.int b) Q = Q (.bl (decide (a ≤ b))) := propext Iff.rfl
@[simp] theorem dGt_1 : dGt (.int a) (.int b) Q = Q (.bl (decide (b < a))) := propext Iff.rfl
@[simp] theorem dGe_1 : dGe (.int a) (.int b) Q = Q (.bl (decide (b ≤ a))) := propext Iff.rfl
@[simp] theorem dIsN_1 : dIsN .non .non Q = Q (.bl true) := propext Iff.rfl
@[simp] theorem dIsN_2 : dIsN (.int a) .non Q = Q (.bl false) := propext Iff.rfl
@[simp] theorem dIsN_3 : dIsN (.tup ds) .non Q = Q (.bl false) := propext Iff.rfl
@[simp] theorem dIsN_4 : dIsN (.lst ds) .non Q = Q (.bl false) := propext Iff.rfl
@[simp] theorem dNotN_1 : dNotN .non .non Q = Q (.bl false) := propext Iff.rfl
@[simp] theorem dNotN_2 : dNotN (.int a) .non Q = Q (.bl true) := propext Iff.rfl
@[simp] theorem dNotN_3 : dNotN (.tup ds) .non Q = Q (.bl true) := propext Iff.rfl
@[simp] theorem dNotN_4 : dNotN (.lst ds) .non Q = Q (.bl true) := propext Iff.rfl
@[simp] theorem dNeg_1 : dNeg (.int a) Q = Q (.int (-a)) := propext Iff.rfl
@[simp] theorem dNot_1 : dNot (.bl u) Q = Q (.bl (!u)) := propext Iff.rfl
@[simp] theorem dIx_1 : dIx (.lst ds) (.int a) Q = ∃ d, atI ds a = some d ∧ Q d := propext Iff.rfl
@[simp] theorem dIx_2 : dIx (.tup ds) (.int a) Q = ∃ d, atI ds a = some d ∧ Q d := propext Iff.rfl
@[simp] theorem dIx_3 (ns : List Int) : dIx (.scr ns) (.int a) Q = ∃ j, atI ns a = some j ∧ Q (.int j) := propext Iff.rfl
@[simp] theorem dTru_1 : dTru (.bl u) Qb = Qb u := propext Iff.rfl
@[simp] theorem dTru_2 : dTru (.int a) Qb = Qb (a != 0) := propext Iff.rfl
@[simp] theorem dTru_3 : dTru (.lst ds) Qb = Qb (!ds.isEmpty) := propext Iff.rfl
@[simp] theorem dTru_4 : dTru (.tup ds) Qb = Qb (!ds.isEmpty) := propext Iff.rfl
@[simp] theorem dTru_5 : dTru .non Qb = Qb false := propext Iff.rfl
@[simp] theorem dLen_1 : dLen (.lst ds) Q = Q (.int ds.length) := propext Iff.rfl
@[simp] theorem dLen_2 : dLen (.tup ds) Q = Q (.int ds.length) := propext Iff.rfl
@[simp] theorem dLen_3 (ns : List Int) : dLen (.scr ns) Q = Q (.int ns.length) := propext Iff.rfl
@[simp] theorem dAbs_1 : dAbs (.int a) Q = Q (.int (if a < 0 then -a else a)) := propext Iff.rfl
@[simp] theorem dInt_1 : dInt (.int a) Q = Q (.int a) := propext Iff.rfl
@[simp] theorem dInt_2 : dInt (.bl u) Q = Q (.int (if u then 1 else 0)) := propext Iff.rfl
@[simp] theorem dBool_1 : dBool (.int a) Q = Q (.bl (a != 0)) := propext Iff.rfl
@[simp] theorem dBool_2 : dBool (.bl u) Q = Q (.bl u) := propext Iff.rfl
@[simp] theorem dMax_1 : dMax (.int a) (.int b) Q = Q (.int (if b > a then b else a)) := propext Iff.rfl
@[simp] theorem dMin_1 : dMin (.int a) (.int b) Q = Q (.int (if b < a then b else a)) := propext Iff.rfl
@[simp] theorem fPart_1 : fPart (.int a) = ep (some a) := funext fun _ => rfl
@[simp] theorem fSlO_1 (lo hi : Option Int) : fSlO (.lst ds) lo hi = ep (cutD ds lo hi) := funext fun _ => rfl
@[simp] theorem fSlE_1 (lo hi : Option Int) : fSlE (.tup ds) lo hi = ep (.tup (cutD ds lo hi)) := funext fun _ => rfl
@[simp] theorem fList_1 : fList (.lst ds) = ep ds := funext fun _ => rfl
@[simp] theorem fList_2 : fList (.tup ds) = ep ds := funext fun _ => rfl
@[simp] theorem fTuple_1 : fTuple (.lst ds) = ep (.tup ds) := funext fun _ => rfl
@[simp] theorem fTuple_2 : fTuple (.tup ds) = ep (.tup ds) := funext fun _ => rfl
@[simp] theorem fSeqI_1 : fSeqI (.lst ds) = ep ds := funext fun _ => rfl
@[simp] theorem fSeqI_2 : fSeqI (.tup ds) = ep ds := funext fun _ => rfl
@[simp] theorem fRng1_1 (X : Er → Rho → Zs → Prop) (Ql : List D → Rho → Zs → Prop) : fRng1 [.int a] ρ Ql X z = ((-(2 ^ 62) ≤ a ∧ a < 2 ^ 62) ∧ Ql (rngD 0 a.toNat) ρ z) := propext Iff.rfl
@[simp] theorem fRng2_1 (X : Er → Rho → Zs → Prop) (Ql : List D → Rho → Zs → Prop) : fRng2 [.int a, .int b] ρ Ql X z = ((-(2 ^ 62) ≤ a ∧ a < 2 ^ 62 ∧ -(2 ^ 62) ≤ b ∧ b < 2 ^ 62) ∧ Ql (rngD a (b - a).toNat) ρ z) := propext Iff.rfl
@[simp] theorem fEnum_1 : fEnum [.lst ds] = ep (enumD 0 ds) := funext fun _ => rfl
@[simp] theorem fZip_1 : fZip [.lst ds, .lst es] = ep (zipD ds es) := funext fun _ => rfl
@[simp] theorem fAndV_1 (m : E D) : fAndV m (.bl u) = if u = true then m else ep (.bl false) := funext fun _ => rfl
@[simp] theorem fOrV_2 (m : E D) : fOrV m (.bl u) = if u = true then ep (.bl true) else m := funext fun _ => rfl
end
/-- a test that is not decided yet -/
@[simp] theorem ite_E {α : Type} (c : Prop) [Decidable c] (A B : E α) (ρ : Rho) (Q : α → Rho → Zs → Prop) (X : Er → Rho → Zs → Prop) (z : Zs) : (if c then A else B) ρ Q X z = ((c → A ρ Q X z) ∧ (¬ c → B ρ Q X z)) := by
  by_cases h : c
  · simp [h]
  · simp [h]
@[simp] theorem bits10 : Builtin.Int.intBits 10 = 4 := by decide +kernel
theorem bits_of {i : Int} {n : Nat} (h : i.natAbs < 2 ^ n) (hn : 0 < n) : (Builtin.Int.intBits i : Int) ≤ n := by
  have := bits_le h hn
  omega
@[simp] theorem gL_a (a b : List D) : gL a b = a := by cases a <;> rfl
@[simp] theorem gP_a (ix : List Nat) (a b : List D) : gP ix a b = pick ix (a ++ b) := by cases a <;> rfl
@[simp] theorem pick_0 (l : List D) : pick [] l = [] := by cases l <;> rfl
@[simp] theorem pick_1 (i : Nat) (r : List Nat) (l : List D) : pick (i :: r) l = (match l[i]? with
  | some x => x :: pick r l
  | none => pick r l) := by
  unfold pick
  rw [List.filterMap_cons]
  cases l[i]? <;> rfl
@[simp] theorem dRepr_1 (ds : List D) (Q : D → Prop) : dRepr (.lst ds) Q = (reprOk (.lst ds) ∧ Q (.str (D.lst ds).py.shown)) := propext Iff.rfl
@[simp] theorem dRepr_2 (ds : List D) (Q : D → Prop) : dRepr (.tup ds) Q = (reprOk (.tup ds) ∧ Q (.str (D.tup ds).py.shown)) := propext Iff.rfl
/-! ## what may be shown -/
mutual
def D.okS : D → Prop
  | .non => True
  | .bl _ => True
  | .int i => i.natAbs < 2 ^ 200
  | .str s => ∀ c ∈ s.cps.toList, c < 16 ^ 8
  | .lst xs => okSL xs
  | .tup xs => okSL xs
  | _ => False
def okSL : List D → Prop
  | [] => True
  | x :: r => x.okS ∧ okSL r
end
mutual
def D.blk : D → Nat
  | .str s => s.cps.size
  | .lst xs => blkL xs
  | .tup xs => blkL xs
  | _ => 0
def blkL : List D → Nat
  | [] => 0
  | x :: r => x.blk + 1 + blkL r
end
mutual
def D.dep : D → Nat
  | .lst xs => depL xs + 1
  | .tup xs => depL xs + 1
  | _ => 0
def depL : List D → Nat
  | [] => 0
  | x :: r => max x.dep (depL r)
end
mutual
theorem okS_all : ∀ d : D, d.okS → d.isPy = true ∧ d.py.showable = true ∧ d.py.leavesShort 202 = true ∧ d.py.bulk = d.blk ∧ d.py.depth = d.dep
  | .non, _ => ⟨rfl, rfl, rfl, rfl, rfl⟩
  | .bl _, _ => ⟨rfl, rfl, rfl, rfl, rfl⟩
  | .int i, h => by
    have hl : i.natAbs.log2 < 200 := PySem.Flt.log2_lt_of (by omega) h
    refine ⟨rfl, decide_eq_true (by omega), ?_, rfl, rfl⟩
    have := PySem.int_text_length_le (a := i) (k := 200) (by omega) hl
    refine decide_eq_true ?_
    show (PySem.Str.ofString (toString i)).length ≤ 202
    rw [PySem.ofString_length]
    omega
  | .str s, h => ⟨rfl, rfl, by
      show (s.cps.toList.all fun c => decide (c < 16 ^ 8)) = true
      rw [List.all_eq_true]
      exact fun c hc => decide_eq_true (h c hc), rfl, rfl⟩
  | .lst xs, h => by
    obtain ⟨h1, h2, h3, h4, h5⟩ := okSL_all xs h
    exact ⟨h1, h2, h3, h4, congrArg (· + 1) h5⟩
  | .tup xs, h => by
    obtain ⟨h1, h2, h3, h4, h5⟩ := okSL_all xs h
    exact ⟨h1, h2, h3, h4, congrArg (· + 1) h5⟩
  | .cel, h => h.elim
  | .ins _ _ _, h => h.elim
  | .dic _ _, h => h.elim
  | .exn _ _ _ _, h => h.elim
  | .scr _, h => h.elim
theorem okSL_all : ∀ ds : List D, okSL ds → isPyL ds = true ∧ PyData.showableAll (pyL ds) = true ∧ PyData.leavesShortAll 202 (pyL ds) = true ∧ PyData.bulkAll (pyL ds) = blkL ds ∧ PyData.depthAll (pyL ds) = depL ds
  | [], _ => ⟨rfl, rfl, rfl, rfl, rfl⟩
  | d :: r, h => by
    obtain ⟨h1, h2, h3, h4, h5⟩ := okS_all d h.1
    obtain ⟨k1, k2, k3, k4, k5⟩ := okSL_all r h.2
    refine ⟨?_, ?_, ?_, ?_, ?_⟩
    · show (d.isPy && isPyL r) = true
      rw [h1, k1]; rfl
    · show (d.py.showable && PyData.showableAll (pyL r)) = true
      rw [h2, k2]; rfl
    · show (d.py.leavesShort 202 && PyData.leavesShortAll 202 (pyL r)) = true
      rw [h3, k3]; rfl
    · show d.py.bulk + 1 + PyData.bulkAll (pyL r) = d.blk + 1 + blkL r
      rw [h4, k4]
    · show max d.py.depth (PyData.depthAll (pyL r)) = max d.dep (depL r)
      rw [h5, k5]
end
theorem reprOk_of {d : D} (h : d.okS) (hd : d.dep ≤ 60) (hb : d.blk ≤ 80000) : reprOk d := by
  obtain ⟨h1, h2, h3, h4, h5⟩ := okS_all d h
  have := PyData.shown_le_bulk 202 (by omega) d.py h3
  exact ⟨h1, h2, by omega, by omega⟩
theorem mulC_l {a b : Int} (h : -9223372036854775808 < a ∧ a < 9223372036854775808) : MulC a b := .inl (by omega)
theorem mulC_r {a b : Int} (h : -9223372036854775808 < b ∧ b < 9223372036854775808) : MulC a b := .inr (.inl (by omega))
theorem log_lt {n : Int} (h : -9223372036854775808 < n ∧ n < 9223372036854775808) : n.natAbs.log2 < 9000 := by
  have : n.natAbs.log2 < 64 := PySem.Flt.log2_lt_of (by omega) (by omega)
  omega
theorem log_lt2 {n : Int} (h : n.natAbs < 2 ^ 1000) : n.natAbs.log2 < 9000 := by
  have : n.natAbs.log2 < 1000 := PySem.Flt.log2_lt_of (by omega) h
  omega
theorem bits_3 {i : Int} (h : i.natAbs < 2 ^ 200) : (Builtin.Int.intBits i : Int) * 3 ≤ 134217728 := by
  have := bits_of h (by omega)
  omega
theorem bits_2 {i : Int} (h : i.natAbs < 2 ^ 200) : (Builtin.Int.intBits i : Int) * 2 ≤ 134217728 := by
  have := bits_of h (by omega)
  omega
theorem fmod_b (a : Int) {b : Int} (h : 0 < b) : 0 ≤ a.fmod b ∧ a.fmod b < b := ⟨Int.fmod_nonneg_of_pos a h, Int.fmod_lt_of_pos a h⟩
theorem log1024 : Nat.log2 1024 < 9000 := by decide +kernel
theorem log4096 : Nat.log2 4096 < 9000 := by decide +kernel
theorem atI_nat {α : Type} (l : List α) (j : Nat) (h : j < l.length) : L2.atI l (j : Int) = some l[j] := by
  unfold L2.atI ixN
  rw [if_pos (by omega), if_pos (by omega)]
  simp
theorem gcd_step (a b : Int) (ha : 0 ≤ a) (hb : 0 < b) : Int.gcd b (a.fmod b) = Int.gcd a b := by
  rw [Int.fmod_eq_emod_of_nonneg a (by omega)]
  obtain ⟨m, rfl⟩ := Int.eq_ofNat_of_zero_le ha
  obtain ⟨n, rfl⟩ := Int.eq_ofNat_of_zero_le (Int.le_of_lt hb)
  show Nat.gcd n (m % n) = Nat.gcd m n
  rw [Nat.gcd_comm m n, Nat.gcd_rec n m, Nat.gcd_comm]
theorem gcd_abs (a b : Int) : Int.gcd (if a < 0 then -a else a) (if b < 0 then -b else b) = Int.gcd a b := by
  split <;> split <;> simp
@[simp] theorem atI_lit {α : Type} (l : List α) (n : Nat) : L2.atI l (no_index (OfNat.ofNat n : Int)) = l[n]? := by
  unfold L2.atI ixN
  have e : (OfNat.ofNat n : Int) = ((n : Nat) : Int) := rfl
  rw [e, if_pos (by omega)]
  by_cases h : n < l.length
  · rw [if_pos (by omega)]
    simp
  · rw [if_neg (by omega), List.getElem?_eq_none (by omega)]
    rfl
@[simp] theorem atI_neg1 {α : Type} (l : List α) : L2.atI l (-1) = l.getLast? := by
  unfold L2.atI ixN
  rw [if_neg (by omega), List.getLast?_eq_getElem?]
  by_cases h : l.length = 0
  · rw [if_neg (by omega), List.getElem?_eq_none (by omega)]
    rfl
  · rw [if_pos (by omega)]
    show l[((-1 : Int) + (l.length : Int)).toNat]? = _
    congr 1
    omega
theorem atI_all {α : Type} (l : List α) (c : Int) (h0 : 0 ≤ c) (h1 : c < l.length) (K : α → Prop) (h : ∀ d ∈ l, K d) : ∃ d, L2.atI l c = some d ∧ K d := by
  obtain ⟨j, rfl⟩ := Int.eq_ofNat_of_zero_le h0
  have hj : j < l.length := by omega
  exact ⟨l[j], atI_nat l j hj, h _ (List.getElem_mem hj)⟩
theorem strS {s : Str} (h : (s.cps.toList.all fun c => decide (c < 16 ^ 8)) = true) : (D.str s).okS := fun c hc => of_decide_eq_true (List.all_eq_true.mp h c hc)
theorem fdiv_small (x s : Int) : (x.fdiv s).natAbs ≤ x.natAbs + 1 := by
  have h := Int.natAbs_ediv_le_natAbs x s
  rw [Int.fdiv_eq_ediv]
  split <;> omega
end DL

namespace DL
open PySem PySem.Spec PyProof.Rows L2

/-! ## a op b op c -/
section
variable {X : Cx} {C : CC} {W : WX} {e a b c : Expr} {ma mb mc : E D} {pos p : Pos} {k : Nat} {f g : P2}
def blK : D → (Bool → Prop) → Prop
  | .bl t, K => K t
  | _, _ => False
theorem blK_of {d : D} {K : Bool → Prop} (h : blK d K) : ∃ t, d = .bl t ∧ K t := by
  cases d with
  | bl t => exact ⟨t, rfl, h⟩
  | _ => exact h.elim
@[simp] theorem blK_1 (t : Bool) (K : Bool → Prop) : blK (.bl t) K = K t := propext Iff.rfl
def eCh (f g : P2) (ma mb mc : E D) : E D := eb ma fun x => eb mb fun y ρ Q X z => f x y fun d => blK d fun t => ((t = true → mc ρ (fun w ρ' z' => g y w fun d => Q d ρ' z') X z) ∧ (t = false → Q (.bl false) ρ z))
theorem den_chain {r r' : R2} {ta tb tc : TE} (ha : Den C W ta ma (kT C)) (hb : Den C W tb mb (kT C)) (hc : Den C W tc mc (kT C)) (ho : Op2 C W r (fun x y => eP (f x y)) (kR C)) (ho' : Op2 C W r' (fun x y => eP (g x y)) (kR C)) :
    Den C W (tChain r r' ta tb tc) (eCh f g ma mb mc) (kR C) := by
  refine Den.bind (u := fun x σ H Q => tb σ H fun y H2 => r x y H2 fun z H3 => ∃ k, z = V.bl k ∧ (if k = true then tc σ H3 fun w' H4 => r' y w' H4 Q else Q (.bl false) H3)) back_R ha fun H0 σ ρ F H z dx x Qd Xd Q S rx hm hq hx => ?_
  refine hb σ ρ F H z _ Xd _ S hm (fun dy ρ2 z2 y F2 H2 q2 S2 ff2 k2 o2 ry => ?_) hx
  refine ho σ ρ2 F2 H2 z2 x y dx dy (fun d ρ' z' => blK d fun t => ((t = true → mc ρ' (fun w ρ' z' => g dy w fun d => Qd d ρ' z') Xd z') ∧ (t = false → Qd (.bl false) ρ' z'))) Xd _ S2 (rx.keep ff2 k2).now ry.now q2 (fun d ρ3 z3 v F3 H3 q3 S3 ff3 k3 o3 r3 => ?_) (fun e ρ' z' cls dd F' H' q' S' ff' r' => hx e ρ' z' cls dd F' H' q' S' (ff2.trans ff') r')
  obtain ⟨t, rfl, q3, q4⟩ := blK_of q3
  cases r3
  refine ⟨t, rfl, ?_⟩
  have hh : ∀ c ρ' z' d F' H', Qd c ρ' z' → StOk C σ ρ' F' H' z' → Same F3 F' → Keep C.pa F3 F' H3 H' → Ole ρ' ρ3 → C.R F' d c → Q d H' := fun c ρ' z' d F' H' q S' ff' k' o' r' =>
    hq c ρ' z' d F' H' q S' (ff2.trans (ff3.trans ff')) (k2.trans (k3.trans k')) ((o'.trans o3).trans o2) r'
  have hxx : ∀ e ρ' z' cls dd F' H', Xd e ρ' z' → StOk C σ ρ' F' H' z' → Same F3 F' → ExR C F' H' e cls dd → W cls dd σ H' := fun e ρ' z' cls dd F' H' q S' ff' r' => hx e ρ' z' cls dd F' H' q S' (ff2.trans (ff3.trans ff')) r'
  cases t with
  | false =>
    rw [if_neg Bool.false_ne_true]
    exact S3.same (R := kR C) (q4 rfl) (.bl _) hh
  | true =>
    rw [if_pos rfl]
    refine hc σ ρ3 F3 H3 z3 _ Xd _ S3 (q3 rfl) (fun dw ρ4 z4 w F4 H4 q5 S4 ff4 k4 o4 rw' => ?_) hxx
    exact ho' σ ρ4 F4 H4 z4 y w dy dw Qd Xd Q S4 ((ry.keep ff3 k3).keep ff4 k4).now rw'.now q5
      (fun c ρ' z' d F' H' q' S' ff' k' o' r' => hh c ρ' z' d F' H' q' S' (ff4.trans ff') (k4.trans k') (o'.trans o4) r')
      (fun e ρ' z' cls dd F' H' q' S' ff' r' => hxx e ρ' z' cls dd F' H' q' S' (ff4.trans ff') r')
theorem xt_chain {op op' : CmpOp} {r r' : R2} (h : OpR X (compareOp op) r) (ho : Op2 C W r (fun x y => eP (f x y)) (kR C)) (h' : OpR X (compareOp op') r') (ho' : Op2 C W r' (fun x y => eP (g x y)) (kR C)) (ha : XP X C W a ma) (hb : XP X C W b mb) (hc : XP X C W c mc)
    (hm : lastMarks [op, op'] [b, c] = false := by with_unfolding_all rfl) : XT X C W (.Compare a [op, op'] [b, c] pos) (eT (eCh f g ma mb mc)) := by
  obtain ⟨ta, a1, a2⟩ := ha.ex
  obtain ⟨tb, b1, b2⟩ := hb.ex
  obtain ⟨tc, c1, c2⟩ := hc.ex
  exact ⟨_, pt_chain h h' a1 b1 c1 hm, den_test (den_chain a2 b2 c2 ho ho')⟩
theorem xe_chain {op op' : CmpOp} {r r' : R2} (h : OpR X (compareOp op) r) (ho : Op2 C W r (fun x y => eP (f x y)) (kR C)) (h' : OpR X (compareOp op') r') (ho' : Op2 C W r' (fun x y => eP (g x y)) (kR C)) (ha : XP X C W a ma) (hb : XP X C W b mb) (hc : XP X C W c mc)
    (hm : lastMarks [op, op'] [b, c] = false := by with_unfolding_all rfl) : XE X C W (.Compare a [op, op'] [b, c] pos) (eCh f g ma mb mc) := by
  obtain ⟨ta, a1, a2⟩ := ha.ex
  obtain ⟨tb, b1, b2⟩ := hb.ex
  obtain ⟨tc, c1, c2⟩ := hc.ex
  exact ⟨_, pe_chain h h' a1 b1 c1 hm, den_chain a2 b2 c2 ho ho'⟩
end
@[simp] theorem eCh_a (f g : P2) (ma mb mc : E D) (ρ : Rho) (Q : D → Rho → Zs → Prop) (X : Er → Rho → Zs → Prop) (z : Zs) : eCh f g ma mb mc ρ Q X z = ma ρ (fun x ρ1 z1 => mb ρ1 (fun y ρ2 z2 => f x y fun d => blK d fun t => ((t = true → mc ρ2 (fun w ρ' z' => g y w fun d => Q d ρ' z') X z2) ∧ (t = false → Q (.bl false) ρ2 z2))) X z1) X z := propext Iff.rfl

/-! ## defs that call themselves: by fuel -/
theorem fn_none {P : Program} {w : World} {K : PySem.W.Frag} {mg : Str → Option Value} {base : Heap} {k n : Nat} {f : Addr} {fd : FuncData} {ps : List Str} (hn : n = ps.length) : FnG P w K mg base k f fd ps (spF K mg n fun _ _ _ _ => False) :=
  ⟨fun vs H Q E h => h.1.trans hn, fun A outer s H args us vs Q E _ _ _ _ _ h => by obtain ⟨_, _, _, _, _, _, _, _, _, _, h, _⟩ := h; exact h.elim⟩
theorem fn_noneO {P : Program} {w : World} {K : PySem.W.Frag} {mg : Str → Option Value} {base : Heap} {k n : Nat} {f : Addr} {fd : FuncData} {ps : List Str} (hn : n = ps.length) : FnG P w K mg base k f fd ps (spO K mg n fun _ _ _ _ => False) :=
  ⟨fun vs H Q E h => h.1.trans hn, fun A outer s H args us vs Q E _ _ _ _ _ h => by obtain ⟨_, _, _, _, _, _, _, _, _, _, h, _⟩ := h; exact h.elim⟩
theorem fn_some {P : Program} {w : World} {K : PySem.W.Frag} {mg : Str → Option Value} {base : Heap} {k n N : Nat} {f : Addr} {fd : FuncData} {ps : List Str} {m : Nat → List D → E0 D} (hn : n = ps.length) (h : ∀ i, i ≤ N → FnG P w K mg base k f fd ps (spF K mg n (m i))) :
    FnG P w K mg base k f fd ps (spF K mg n fun ds Q X z => ∃ i, i ≤ N ∧ m i ds Q X z) :=
  ⟨fun vs H Q E h => h.1.trans hn, fun A outer s H args us vs Q E h1 h2 h3 h4 h5 hs => by
    obtain ⟨hl, pa, F, z, ds, Qd, Xd, g1, g2, g3, ⟨i, hi, g4⟩, g5⟩ := hs
    exact (h i hi).run A outer s H args us vs Q E h1 h2 h3 h4 h5 ⟨hl, pa, F, z, ds, Qd, Xd, g1, g2, g3, g4, g5⟩⟩
theorem fn_someO {P : Program} {w : World} {K : PySem.W.Frag} {mg : Str → Option Value} {base : Heap} {k n N : Nat} {f : Addr} {fd : FuncData} {ps : List Str} {m : Nat → List D → E0 (List D)} (hn : n = ps.length) (h : ∀ i, i ≤ N → FnG P w K mg base k f fd ps (spO K mg n (m i))) :
    FnG P w K mg base k f fd ps (spO K mg n fun ds Q X z => ∃ i, i ≤ N ∧ m i ds Q X z) :=
  ⟨fun vs H Q E h => h.1.trans hn, fun A outer s H args us vs Q E h1 h2 h3 h4 h5 hs => by
    obtain ⟨hl, pa, F, z, ds, Qd, Xd, g1, g2, g3, ⟨i, hi, g4⟩, g5⟩ := hs
    exact (h i hi).run A outer s H args us vs Q E h1 h2 h3 h4 h5 ⟨hl, pa, F, z, ds, Qd, Xd, g1, g2, g3, g4, g5⟩⟩

/-! ## isinstance of data -/
def tyN : D → Option String
  | .non => some "NoneType"
  | .bl _ => some "bool"
  | .int _ => some "int"
  | .str _ => some "str"
  | .lst _ => some "list"
  | .tup _ => some "tuple"
  | _ => none
def dIsT (T : String) : P1 := fun d Q => ∃ t b, tyN d = some t ∧ kitB t T = some b ∧ Q (.bl b)
section
variable {X : Cx} {C : CC} {W : WX} {a : Expr} {ma : E D} {pos p p2 : Pos} {x : Str} {T : String}
theorem pe_tyN (hg : Gl X x) (hm : X.mg x = none) (hv : bootBuiltins x = some (.type T)) (hn : x ≠ "__name__" := by decide) (hdb : (x == ("__debug__" : Str)) = false := by decide) : PE X (.Name x p) (tC (.ty T)) :=
  ⟨fun pins s σ H Q I h => ld_blt I hg hm hv ⟨.ty T, H, I, rfl, h⟩ hn hdb⟩
theorem ty_of {F H : Hp} {v : V} {d : D} {t : String} (s : Sub F H) (r : RT C F H v d) (h : tyN d = some t) : TyX C.K H v (.type t) := by
  cases d with
  | non => cases h; rw [RT.non r]; exact .base .non
  | bl b => cases h; rw [RT.bl r]; exact .base (.bl b)
  | int b => cases h; rw [RT.int r]; exact .base (.int b)
  | str b => cases h; rw [RT.str r]; exact .base (.str b)
  | lst ds =>
    cases h
    obtain ⟨a, xs, rfl, ha, _⟩ := RT.lst s r
    exact .base (.lst ha)
  | tup ds =>
    cases h
    obtain ⟨a, xs, rfl, ha, _⟩ := RT.tup s r
    rcases ha with (ha | ⟨o, ha⟩) | ⟨o, its, n, ho, hc, _⟩
    · exact .base (.tup ha)
    · exact .fTuple ha
    · exact .kTuple ho hc
  | _ => cases h
theorem xe_isT (hK : X.K = C.K) (ha : XP X C W a ma) (hg : Gl X "isinstance") (hm : X.mg "isinstance" = none) (h2 : PE X (.Name x p2) (tC (.ty T))) (hp : starEach (a :: [.Name x p2]) X.env = (false, eval a X.env) :: starEach [.Name x p2] X.env := by rfl) (hpl : (backTo pos (starEach [.Name x p2] X.env)).any (·.1) = false := by rfl) :
    XE X C W (.Call (.Name "isinstance" p) [a, .Name x p2] [] pos) (eb ma fun d => eP (dIsT T d)) := by
  obtain ⟨ta, a1, a2⟩ := ha.ex
  refine ⟨_, pe_callB L2.call_isi hg hm rfl (pa2 a1 h2 hp rfl) (by decide) (by decide) hp hpl, ?_⟩
  refine den_un (r := fun x H Q => rIsi X.K [x, .ty T] H Q) back_R a2 ?_
  refine op1_flat fun F H x dx Q Qd s rx hp hq => ?_
  obtain ⟨t, b, h1, h3, q⟩ := hp
  rw [hK]
  exact ⟨x, .ty T, .type t, .type T, b, rfl, .ty T, ty_of s rx h1, kit_ty h3, hq _ _ q (.bl b)⟩
end
@[simp] theorem dIsT_1 (T : String) (Q : D → Prop) : dIsT T .non Q = ∃ b, kitB "NoneType" T = some b ∧ Q (.bl b) := by simp [dIsT, tyN]
@[simp] theorem dIsT_2 (T : String) (v : Bool) (Q : D → Prop) : dIsT T (.bl v) Q = ∃ b, kitB "bool" T = some b ∧ Q (.bl b) := by simp [dIsT, tyN]
@[simp] theorem dIsT_3 (T : String) (v : Int) (Q : D → Prop) : dIsT T (.int v) Q = ∃ b, kitB "int" T = some b ∧ Q (.bl b) := by simp [dIsT, tyN]
@[simp] theorem dIsT_4 (T : String) (v : Str) (Q : D → Prop) : dIsT T (.str v) Q = ∃ b, kitB "str" T = some b ∧ Q (.bl b) := by simp [dIsT, tyN]
@[simp] theorem dIsT_5 (T : String) (v : List D) (Q : D → Prop) : dIsT T (.lst v) Q = ∃ b, kitB "list" T = some b ∧ Q (.bl b) := by simp [dIsT, tyN]
@[simp] theorem dIsT_6 (T : String) (v : List D) (Q : D → Prop) : dIsT T (.tup v) Q = ∃ b, kitB "tuple" T = some b ∧ Q (.bl b) := by simp [dIsT, tyN]
@[simp] theorem kb_NoneType_bool : kitB "NoneType" "bool" = some false := by decide +kernel
@[simp] theorem kb_NoneType_int : kitB "NoneType" "int" = some false := by decide +kernel
@[simp] theorem kb_NoneType_str : kitB "NoneType" "str" = some false := by decide +kernel
@[simp] theorem kb_NoneType_list : kitB "NoneType" "list" = some false := by decide +kernel
@[simp] theorem kb_NoneType_tuple : kitB "NoneType" "tuple" = some false := by decide +kernel
@[simp] theorem kb_bool_bool : kitB "bool" "bool" = some true := by decide +kernel
@[simp] theorem kb_bool_int : kitB "bool" "int" = some true := by decide +kernel
@[simp] theorem kb_bool_str : kitB "bool" "str" = some false := by decide +kernel
@[simp] theorem kb_bool_list : kitB "bool" "list" = some false := by decide +kernel
@[simp] theorem kb_bool_tuple : kitB "bool" "tuple" = some false := by decide +kernel
@[simp] theorem kb_int_bool : kitB "int" "bool" = some false := by decide +kernel
@[simp] theorem kb_int_int : kitB "int" "int" = some true := by decide +kernel
@[simp] theorem kb_int_str : kitB "int" "str" = some false := by decide +kernel
@[simp] theorem kb_int_list : kitB "int" "list" = some false := by decide +kernel
@[simp] theorem kb_int_tuple : kitB "int" "tuple" = some false := by decide +kernel
@[simp] theorem kb_str_bool : kitB "str" "bool" = some false := by decide +kernel
@[simp] theorem kb_str_int : kitB "str" "int" = some false := by decide +kernel
@[simp] theorem kb_str_str : kitB "str" "str" = some true := by decide +kernel
@[simp] theorem kb_str_list : kitB "str" "list" = some false := by decide +kernel
@[simp] theorem kb_str_tuple : kitB "str" "tuple" = some false := by decide +kernel
@[simp] theorem kb_list_bool : kitB "list" "bool" = some false := by decide +kernel
@[simp] theorem kb_list_int : kitB "list" "int" = some false := by decide +kernel
@[simp] theorem kb_list_str : kitB "list" "str" = some false := by decide +kernel
@[simp] theorem kb_list_list : kitB "list" "list" = some true := by decide +kernel
@[simp] theorem kb_list_tuple : kitB "list" "tuple" = some false := by decide +kernel
@[simp] theorem kb_tuple_bool : kitB "tuple" "bool" = some false := by decide +kernel
@[simp] theorem kb_tuple_int : kitB "tuple" "int" = some false := by decide +kernel
@[simp] theorem kb_tuple_str : kitB "tuple" "str" = some false := by decide +kernel
@[simp] theorem kb_tuple_list : kitB "tuple" "list" = some false := by decide +kernel
@[simp] theorem kb_tuple_tuple : kitB "tuple" "tuple" = some true := by decide +kernel
end DL

namespace DL
open PySem PySem.Spec PyProof.Rows L2

/-! ## a purse of one's own under a local name -/
mutual
def D.noC : D → Bool
  | .cel => false
  | .lst xs => noCL xs
  | .tup xs => noCL xs
  | .ins _ _ xs => noCL xs
  | .dic _ xs => noCL xs
  | .exn _ _ _ e => e.noC
  | .mc _ => false
  | _ => true
def noCL : List D → Bool
  | [] => true
  | x :: r => x.noC && noCL r
end
section
variable {K : PySem.W.Frag} {mg : Str → Option Value} {F : Hp} {q : Addr}
mutual
theorem Rp.toQ (hq : F q = none) : ∀ {d : D} {v : V}, Rp K mg none F v d → Rp K mg (some q) F v d
  | .non, _, h => by cases h; exact .non
  | .bl _, _, h => by cases h; exact .bl _
  | .int _, _, h => by cases h; exact .int _
  | .str _, _, h => by cases h; exact .str _
  | .lst _, _, h => by cases h with | lst n e r => exact .lst (fun w => by cases w; rw [hq] at e; cases e) e (RpL.toQ hq r)
  | .tup _, _, h => by cases h with | tup e r => exact .tup e (RpL.toQ hq r)
  | .cel, _, h => by cases h with | cel e => cases e
  | .ins _ _ _, _, h => by cases h with | ins g e l r => exact .ins g e l (RpL.toQ hq r)
  | .dic _ _, _, h => by cases h with | dic e l r => exact .dic e l (RpL.toQ hq r)
  | .exn _ _ _ _, _, h => by cases h with | exn e r => exact .exn e (Rp.toQ hq r)
  | .scr _, _, h => by cases h with | scr e => exact .scr e
  | .mc _, _, h => by cases h with | mc e => exact .mc e
theorem RpL.toQ (hq : F q = none) : ∀ {ds : List D} {vs : List V}, RpL K mg none F vs ds → RpL K mg (some q) F vs ds
  | [], _, h => by cases h; exact .nil
  | _ :: _, _, h => by cases h with | cons a b => exact .cons (Rp.toQ hq a) (RpL.toQ hq b)
end
mutual
theorem Rp.ofQ {G : Hp} (s : Sub F G) : ∀ {d : D} {v : V}, d.noC = true → Rp K mg (some q) F v d → Rp K mg none G v d
  | .non, _, _, h => by cases h; exact .non
  | .bl _, _, _, h => by cases h; exact .bl _
  | .int _, _, _, h => by cases h; exact .int _
  | .str _, _, _, h => by cases h; exact .str _
  | .lst _, _, c, h => by cases h with | lst n e r => exact .lst (by simp) (s _ _ e ngL) (RpL.ofQ s c r)
  | .tup _, _, c, h => by cases h with | tup e r => exact .tup (sqtSub s e) (RpL.ofQ s c r)
  | .cel, _, c, _ => by cases c
  | .ins _ _ _, _, c, h => by cases h with | ins g e l r => exact .ins g (s _ _ e ngI) l (RpL.ofQ s c r)
  | .dic _ _, _, c, h => by cases h with | dic e l r => exact .dic (rdSub s e ngD) l (RpL.ofQ s c r)
  | .exn _ _ _ _, _, c, h => by cases h with | exn e r => exact .exn (s _ _ e ngX) (Rp.ofQ s c r)
  | .scr _, _, _, h => by cases h with | scr e => exact .scr (sqlSub s e)
  | .mc _, _, c, _ => by cases c
theorem RpL.ofQ {G : Hp} (s : Sub F G) : ∀ {ds : List D} {vs : List V}, noCL ds = true → RpL K mg (some q) F vs ds → RpL K mg none G vs ds
  | [], _, _, h => by cases h; exact .nil
  | d :: r, _, c, h => by
    obtain ⟨c1, c2⟩ := Bool.and_eq_true_iff.mp (show (d.noC && noCL r) = true from c)
    cases h with | cons a b => exact .cons (Rp.ofQ s c1 a) (RpL.ofQ s c2 b)
end
end
/-- the frozen part without marks -/
noncomputable def ug (F : Hp) : Hp := fun b => match F b with
  | some o => by classical exact if ∃ k, o = gh k then none else some o
  | none => none
theorem ug_some {F : Hp} {b : Addr} {o : HO} (h : ug F b = some o) : F b = some o ∧ NG o := by
  unfold ug at h
  cases e : F b with
  | none => rw [e] at h; cases h
  | some u =>
    rw [e] at h
    dsimp only at h
    split at h
    · cases h
    · rename_i n
      cases h
      exact ⟨rfl, fun k e => n ⟨k, e⟩⟩
theorem ug_in {F : Hp} : Sub F (ug F) := fun b o e n => by
  unfold ug
  rw [e]
  dsimp only
  rw [if_neg fun ⟨k, q⟩ => n k q]
theorem ug_same {F G : Hp} (s : Same F G) (n : ∀ b k, F b ≠ some (gh k)) : Same F (ug G) := fun b o e => ug_in b o (s b o e) fun k q => n b k (by rw [e, q])
theorem ug_none {F : Hp} {b : Addr} (h : F b = none) : ug F b = none := by
  unfold ug
  rw [h]
theorem cs_nil {K : PySem.W.Frag} {mg : Str → Option Value} {pa : Option Addr} {F H : Hp} (n : ∀ b k, F b ≠ some (gh k)) : CsOk K mg pa F H [] :=
  ⟨fun k c e => by simp at e, fun a k e => absurd e (n a k), fun a b k e => absurd e (n a k)⟩
theorem cs_ng {K : PySem.W.Frag} {mg : Str → Option Value} {pa : Option Addr} {F H : Hp} {cs : List MC} (h : CsOk K mg pa F H cs) (e : cs = []) : ∀ b k, F b ≠ some (gh k) := fun b k q => by
  have := h.lt b k q
  rw [e] at this
  exact absurd this (Nat.not_lt_zero _)
/-- the slots without what holds the purse -/
def clnS : Sl → Sl
  | .fr d => if d.noC = true then .fr d else .no
  | .own ds => if noCL ds = true then .own ds else .no
  | .no => .no
def cln (ρ : Rho) : Rho := ρ.map clnS
theorem cln_get {ρ : Rho} {i : Nat} {s : Sl} (h : (cln ρ)[i]? = some s) : s = .no ∨ (ρ[i]? = some s ∧ clnS s = s) := by
  unfold cln at h
  rw [List.getElem?_map, Option.map_eq_some_iff] at h
  obtain ⟨t, h1, rfl⟩ := h
  cases t with
  | no => exact .inl rfl
  | fr d =>
    by_cases c : d.noC = true
    · have e : clnS (.fr d) = .fr d := by simp [clnS, c]
      rw [e]
      exact .inr ⟨h1, e⟩
    · exact .inl (by simp [clnS, c])
  | own d =>
    by_cases c : noCL d = true
    · have e : clnS (.own d) = .own d := by simp [clnS, c]
      rw [e]
      exact .inr ⟨h1, e⟩
    · exact .inl (by simp [clnS, c])
abbrev CC.wP (C : CC) (q : Addr) : CC := { C with pa := some q }
section
variable {C : CC} {σ : L2.St} {ρ : Rho} {F H : Hp} {z : Zs} {q : Addr}
theorem StOk.toP (hp : C.pa = none) (S : StOk C σ ρ F H z) {x y : Int} (hf : F q = none) (hH : H q = some (.lst [.int x, .int y, .int 0])) (hx : 0 ≤ x) (hy : 0 ≤ y) (hy2 : y < 10 ^ 24 + 7) (hz : z.cs = [])
    (no : ∀ (i : Nat) ys, ρ[i]? = some (.own ys) → σ[i]? ≠ some (some (.ref q))) (nh : q ∉ C.hid) (i : Nat) : StOk (C.wP q) (σ.set i (some (.ref q))) (ρ.set i (.fr .cel)) F H {} := by
  obtain ⟨K, mg, pa, F0, H0, hid⟩ := C
  obtain rfl : pa = none := hp
  have S0 : StOk (CC.wP ⟨K, mg, none, F0, H0, hid⟩ q) σ ρ F H {} := by
    refine ⟨S.sub, S.f0, ⟨fun b u e n g => S.h0.ke b u e (by simp) g, S.h0.gn, S.h0.dm⟩, S.nw, S.len, fun i v s e1 e2 => ?_, S.apart, fun r e => ?_, fun b hb => ?_, cs_nil (cs_ng S.cs hz)⟩
    · have h := S.env i v s e1 e2
      cases s with
      | no => cases v <;> trivial
      | fr d =>
        cases v with
        | none => exact h.elim
        | some v => exact Rp.toQ hf h
      | own ds =>
        cases v with
        | none => exact h.elim
        | some v =>
          obtain ⟨a, xs, rfl, ha, hfa, h0, np, r, nh'⟩ := h
          have ne : a ≠ q := fun w => no i ds e2 (by rw [e1, w])
          exact ⟨a, xs, rfl, ha, hfa, h0, fun w => ne (Option.some.inj w), RpL.toQ hf r, nh'⟩
    · have er : r = q := (Option.some.inj e).symm
      subst er
      exact ⟨hf, x, y, hH, hx, hy, hy2, Int.le_refl 0⟩
    · obtain ⟨h1, h2, h3⟩ := S.hd b hb
      exact ⟨h1, h2, fun w => nh (by rw [← Option.some.inj w]; exact hb)⟩
  exact S0.setF i (v := .ref q) (d := .cel) (.cel rfl)
theorem StOk.ofP (hp : C.pa = none) (hq0 : C.H0 q = none) (S : StOk (C.wP q) σ ρ F H z) (z' : Zs) (hz : z'.cs = []) (n0 : ∀ b k, C.F0 b ≠ some (gh k)) : StOk C σ (cln ρ) (ug F) H z' := by
  obtain ⟨K, mg, pa, F0, H0, hid⟩ := C
  obtain rfl : pa = none := hp
  have ngu : ∀ b k, ug F b ≠ some (gh k) := fun b k e => (ug_some e).2 k rfl
  refine ⟨fun b o e n => S.sub b o (ug_some e).1 n, ug_same S.f0 n0, ⟨fun b u e n g => S.h0.ke b u e (fun w => by rw [Option.some.inj w, hq0] at e; cases e) g, fun b k e => absurd e (ngu b k), S.h0.dm⟩, fun b h1 h2 => S.nw b (fun w => h1 (ug_none w)) h2, (by unfold cln; rw [List.length_map]; exact S.len), fun i v s e1 e2 => ?_, fun i j x y a e1 e2 e3 e4 => ?_, (fun r e => by cases e), fun b hb => ?_, hz ▸ cs_nil ngu⟩
  · rcases cln_get e2 with rfl | ⟨e3, e4⟩
    · cases v <;> trivial
    · have h := S.env i v s e1 e3
      cases s with
      | no => cases v <;> trivial
      | fr d =>
        cases v with
        | none => exact h.elim
        | some v =>
          have c : d.noC = true := by
            by_cases c : d.noC = true
            · exact c
            · simp [clnS, c] at e4
          exact Rp.ofQ ug_in c h
      | own ds =>
        cases v with
        | none => exact h.elim
        | some v =>
          have c : noCL ds = true := by
            by_cases c : noCL ds = true
            · exact c
            · simp [clnS, c] at e4
          obtain ⟨a, xs, rfl, ha, hfa, h0, np, r, nh'⟩ := h
          exact ⟨a, xs, rfl, ha, ug_none hfa, h0, by simp, RpL.ofQ ug_in c r, nh'⟩
  · rcases cln_get e1 with h | ⟨h1, _⟩
    · cases h
    · rcases cln_get e2 with h | ⟨h2, _⟩
      · cases h
      · exact S.apart i j x y a h1 h2 e3 e4
  · obtain ⟨h1, h2, h3⟩ := S.hd b hb
    exact ⟨ug_none h1, h2, by simp⟩
end
def offP (Q : Fl → Rho → Zs → Prop) (z : Zs) : Fl → Rho → Prop
  | .ret d, ρ => ∃ b, d = .bl b ∧ Q (.ret (.bl b)) (cln ρ) z
  | .retO _, _ => False
  | fl, ρ => Q fl (cln ρ) z
def fPurse (i : Nat) (mr : E Fl) : List D → E Fl
  | [.int x, .int y, .int 0] => fun ρ Q _ z => (0 ≤ x ∧ 0 ≤ y ∧ y < 10 ^ 24 + 7 ∧ z.cs = []) ∧ mr (ρ.set i (.fr .cel)) (fun fl ρ' _ => offP Q z fl ρ') (fun _ _ _ => False) {}
  | _ => eStuck
section
variable {X : Cx} {C : CC} {W : WX} {e : Expr} {pos p : Pos} {x : Str} {rest : List Stmt} {mo : E (List D)} {mr : E Fl}
theorem xss_purse (i : Nat) (hp : C.pa = none) (h : XO X C W e mo) (hN : X.N.Nodup) (hi : X.N[i]? = some x) (hx : Loc X.env.scope x) (hr : ∀ q, XSs X (C.wP q) W rest mr) (hs : swapsWith e (some (.Name x p)) pos.line X.env = pure false := by rfl)
    (hf : X.fn x = true ∨ X.env.scope.names.lookup x = some .local := by first | exact .inl rfl | exact .inr rfl | assumption) : XSs X C W (.Assign [.Name x p] e pos :: rest) (eb mo (fPurse i mr)) := by
  obtain ⟨t, a1, a2⟩ := h.ex
  let tU : TS := fun D σ H => ∀ q : Addr, ∃ t, PSs X rest t ∧ t D σ H
  have pU : PSs X rest tU := by
    constructor
    intro pins s σ H D I h
    obtain ⟨t, h1, h2⟩ := h 0
    exact h1.run pins s σ H D I h2
  refine ⟨_, pss_cons (ps_set hN hi hx a1 hs hf) pU, fun σ ρ F H z Qd Xd Dn S hm hq hxx => ?_⟩
  refine a2 σ ρ F H z _ Xd (fun v H1 => gName i v σ H1 fun σ2 H2 => tU Dn σ2 H2) S hm (fun ds ρ1 z1 v F1 H1 q1 S1 ff1 k1 o1 ⟨q, xs, e1, e2, e3, e4, e5, e6⟩ => ?_) (fun e ρ' z' cls dd F' H' q S' ff r => hxx e ρ' z' cls dd σ F' H' q S' ff r)
  subst e1
  unfold fPurse at q1
  split at q1
  · rename_i a b _
    obtain ⟨⟨g1, g2, g3, g4⟩, q1⟩ := q1
    cases e6 with | cons r1 e6 =>
    cases e6 with | cons r2 e6 =>
    cases e6 with | cons r3 e6 =>
    cases e6
    cases r1
    cases r2
    cases r3
    intro _
    obtain ⟨u, u1, u2⟩ := (hr q).ex
    have hq0 : C.H0 q = none := S.h0None e4 e5
    have S2 := S1.toP hp e3 e2 g1 g2 g3 g4 (S.notOwn e4 o1) (S.notHid e4) i
    have n1 := cs_ng S1.cs g4
    have n0 : ∀ b k, C.F0 b ≠ some (gh k) := fun b k e => n1 b k (S1.f0 _ _ e)
    have ffu : ∀ {G : Hp}, Same F1 G → Same F (ug G) := fun {G} s => ff1.trans (ug_same s n1)
    refine ⟨u, u1, u2 _ _ F1 H1 {} _ (fun _ _ _ => False) Dn S2 q1 (fun fl ρ' z' F' H' q2 ff => ?_) (fun e ρ' z' cls dd σ' F' H' q => q.elim)⟩
    cases fl with
    | nx => exact fun σ' S' => hq .nx _ z1 (ug F') H' q2 (ffu ff) σ' (S'.ofP hp hq0 z1 g4 n0)
    | bk => exact fun σ' S' => hq .bk _ z1 (ug F') H' q2 (ffu ff) σ' (S'.ofP hp hq0 z1 g4 n0)
    | ct => exact fun σ' S' => hq .ct _ z1 (ug F') H' q2 (ffu ff) σ' (S'.ofP hp hq0 z1 g4 n0)
    | ret d =>
      intro σ' v S' rv
      obtain ⟨b, rfl, q2⟩ := q2
      cases rv
      exact hq (.ret (.bl b)) _ z1 (ug F') H' q2 (ffu ff) σ' _ (S'.ofP hp hq0 z1 g4 n0) (.bl b)
    | retO d => exact False.elim q2
  · exact False.elim q1
end
@[simp] theorem fPurse_a (i : Nat) (mr : E Fl) (x y : Int) (ρ : Rho) (Q : Fl → Rho → Zs → Prop) (X : Er → Rho → Zs → Prop) (z : Zs) : fPurse i mr [.int x, .int y, .int 0] ρ Q X z = ((0 ≤ x ∧ 0 ≤ y ∧ y < 10 ^ 24 + 7 ∧ z.cs = []) ∧ mr (ρ.set i (.fr .cel)) (fun fl ρ' _ => offP Q z fl ρ') (fun _ _ _ => False) {}) := propext Iff.rfl
@[simp] theorem offP_1 (Q : Fl → Rho → Zs → Prop) (z : Zs) (ρ : Rho) : offP Q z .nx ρ = Q .nx (cln ρ) z := propext Iff.rfl
@[simp] theorem offP_2 (Q : Fl → Rho → Zs → Prop) (z : Zs) (ρ : Rho) (b : Bool) : offP Q z (.ret (.bl b)) ρ = Q (.ret (.bl b)) (cln ρ) z := propext ⟨fun ⟨_, e, h⟩ => by cases e; exact h, fun h => ⟨b, rfl, h⟩⟩
theorem kx_wP {X : Cx} {C : CC} {W : WX} {k : Nat} {q : Addr} (kx : Kx X C W k) : Kx X (C.wP q) W k := ⟨kx.hK, kx.hmg, kx.calm, kx.gu, kx.room, kx.tk, kx.nd, kx.po⟩

/-! ## a, b, c = x, y, z -/
def sPar3 (i j l : Nat) (ms : E (List D)) : E Fl := eb ms fun ds ρ Q _ z => match ds with
  | [d1, d2, d3] => Q .nx (((ρ.set i (.fr d1)).set j (.fr d2)).set l (.fr d3)) z
  | _ => False
theorem xs_par3 {X : Cx} {C : CC} {W : WX} {k : Nat} (i j l : Nat) {x y v : Str} {a b c : Expr} {px py pv pt pos : Pos} {kt k2 pt2} {ms : E (List D)} (kx : Kx X C W k) (hi : X.N[i]? = some x) (hj : X.N[j]? = some y) (hl : X.N[l]? = some v) (hij : i ≠ j) (hil : i ≠ l) (hjl : j ≠ l)
    (hx : X.env.scope.names.lookup x = some .local) (hy : X.env.scope.names.lookup y = some .local) (hv : X.env.scope.names.lookup v = some .local) (ha : XA X C W [a, b, c] ms)
    (hw : swappedStores [.Tuple [.Name x px, .Name y py, .Name v pv] kt pt] (.Tuple [a, b, c] k2 pt2) X.env = pure (some [x, y, v]))
    (hs : swapsWithSole [.Tuple [.Name x px, .Name y py, .Name v pv] kt pt] (.Tuple [a, b, c] k2 pt2) pos.line X.env = pure false := by rfl) :
    XS X C W (.Assign [.Tuple [.Name x px, .Name y py, .Name v pv] kt pt] (.Tuple [a, b, c] k2 pt2) pos) (sPar3 i j l ms) := by
  obtain ⟨t, a1, a2⟩ := ha.ex
  refine ⟨_, ps_par3 kx.calm kx.nd hi hj hl hij hil hjl hx hy hv a1 hw hs, fun σ ρ F H z Qd Xd Dn S hm hq hx => ?_⟩
  refine a2 σ ρ F H z _ Xd (fun vs H1 => ∃ u v w, vs = [u, v, w] ∧ Dn.nx (((σ.set i (some u)).set j (some v)).set l (some w)) H1) S hm (fun ds ρ1 z1 vs F1 H1 q1 S1 ff1 k1 o1 r1 => ?_) (fun e ρ' z' cls dd F' H' q S' ff r => hx e ρ' z' cls dd σ F' H' q S' ff r)
  dsimp only at q1
  split at q1
  · cases r1 with | cons r1 rr =>
    cases rr with | cons r2 rr =>
    cases rr with | cons r3 rr =>
    cases rr
    exact ⟨_, _, _, rfl, hq _ _ _ _ _ q1 ff1 _ (((S1.setF i r1).setF j r2).setF l r3)⟩
  · exact False.elim q1
@[simp] theorem sPar3_a (i j l : Nat) (ms : E (List D)) (ρ : Rho) (Q : Fl → Rho → Zs → Prop) (X : Er → Rho → Zs → Prop) (z : Zs) : sPar3 i j l ms ρ Q X z = ms ρ (fun ds ρ' z' => match ds with
  | [d1, d2, d3] => Q .nx (((ρ'.set i (.fr d1)).set j (.fr d2)).set l (.fr d3)) z'
  | _ => False) X z := propext Iff.rfl
/-! ## int in a tuple of ints; is of bools; max, min of a list -/
theorem inV_int (i : Int) : ∀ ns : List Int, inV (.int i) (ns.map V.int) = ns.any fun n => decide (n = i)
  | [] => rfl
  | n :: r => by
    have ih := inV_int i r
    unfold inV at ih ⊢
    rw [List.map_cons, List.any_cons, List.any_cons, ih]
    congr 1
theorem flat_ints : ∀ ns : List Int, (ns.map V.int).all flatV = true
  | [] => rfl
  | n :: r => by
    rw [List.map_cons, List.all_cons, flat_ints r]
    rfl
def dInT : P2
  | .int i, .tup ds, Q => ∃ ns, intsOf ds = some ns ∧ Q (.bl (ns.any fun n => decide (n = i)))
  | _, _, _ => False
def dNotInT : P2
  | .int i, .tup ds, Q => ∃ ns, intsOf ds = some ns ∧ Q (.bl (!ns.any fun n => decide (n = i)))
  | _, _, _ => False
section
variable {C : CC} {W : WX}
theorem o_inT : Op2 C W (rIn C.K false) (fun a b => eP (dInT a b)) (kR C) := op2_flat fun F H x y dx dy Q Qd s rx ry hp hq => by
  cases dx with
  | int i =>
    cases dy with
    | tup ds =>
      obtain ⟨ns, h1, q⟩ := hp
      obtain rfl := RT.int rx
      obtain ⟨a, xs, rfl, ha, r⟩ := RT.tup s ry
      have e := RpL.ints r h1
      subst e
      refine ⟨a, _, rfl, .inr ha, rfl, flat_ints ns, ?_⟩
      rw [if_neg Bool.false_ne_true, inV_int]
      exact hq _ _ q (.bl _)
    | _ => exact hp.elim
  | _ => exact hp.elim
theorem o_notInT : Op2 C W (rIn C.K true) (fun a b => eP (dNotInT a b)) (kR C) := op2_flat fun F H x y dx dy Q Qd s rx ry hp hq => by
  cases dx with
  | int i =>
    cases dy with
    | tup ds =>
      obtain ⟨ns, h1, q⟩ := hp
      obtain rfl := RT.int rx
      obtain ⟨a, xs, rfl, ha, r⟩ := RT.tup s ry
      have e := RpL.ints r h1
      subst e
      refine ⟨a, _, rfl, .inr ha, rfl, flat_ints ns, ?_⟩
      rw [if_pos rfl, inV_int]
      exact hq _ _ q (.bl _)
    | _ => exact hp.elim
  | _ => exact hp.elim
def dIsB : P2
  | .bl a, .bl b, Q => Q (.bl (decide (a = b)))
  | _, _, _ => False
def dNotB : P2
  | .bl a, .bl b, Q => Q (.bl (!decide (a = b)))
  | _, _, _ => False
theorem o_isB : Op2 C W (fun x y H Q => ∃ a b, x = .bl a ∧ y = .bl b ∧ Q (.bl (decide (a = b))) H) (fun a b => eP (dIsB a b)) (kR C) := op2_flat fun F H x y dx dy Q Qd s rx ry hp hq => by
  cases dx <;> cases dy <;> first | exact hp.elim | exact ⟨_, _, rx.bl, ry.bl, hq _ _ hp (.bl _)⟩
theorem o_notB : Op2 C W (fun x y H Q => ∃ a b, x = .bl a ∧ y = .bl b ∧ Q (.bl (!decide (a = b))) H) (fun a b => eP (dNotB a b)) (kR C) := op2_flat fun F H x y dx dy Q Qd s rx ry hp hq => by
  cases dx <;> cases dy <;> first | exact hp.elim | exact ⟨_, _, rx.bl, ry.bl, hq _ _ hp (.bl _)⟩
def dMaxL : P1
  | .lst ds, Q => ∃ ns, intsOf ds = some ns ∧ 0 < ns.length ∧ ∀ m, m ∈ ns → (∀ y, y ∈ ns → y ≤ m) → Q (.int m)
  | _, _ => False
def dMinL : P1
  | .lst ds, Q => ∃ ns, intsOf ds = some ns ∧ 0 < ns.length ∧ ∀ m, m ∈ ns → (∀ y, y ∈ ns → m ≤ y) → Q (.int m)
  | _, _ => False
theorem o_maxL : Op1 C W (fun x H Q => rMax C.K [x] H Q) (fun d => eP (dMaxL d)) (kR C) := op1_flat fun F H x dx Q Qd s rx hp hq => by
  cases dx with
  | lst ds =>
    obtain ⟨ns, h1, h2, q⟩ := hp
    obtain ⟨a, xs, rfl, ha, r, _⟩ := RT.lst s rx
    have e := RpL.ints r h1
    subst e
    exact ⟨a, ns, rfl, .inl (.inl ha), h2, fun m m1 m2 => hq _ _ (q m m1 m2) (.int m)⟩
  | _ => exact hp.elim
theorem o_minL : Op1 C W (fun x H Q => rMin C.K [x] H Q) (fun d => eP (dMinL d)) (kR C) := op1_flat fun F H x dx Q Qd s rx hp hq => by
  cases dx with
  | lst ds =>
    obtain ⟨ns, h1, h2, q⟩ := hp
    obtain ⟨a, xs, rfl, ha, r, _⟩ := RT.lst s rx
    have e := RpL.ints r h1
    subst e
    exact ⟨a, ns, rfl, .inl (.inl ha), h2, fun m m1 m2 => hq _ _ (q m m1 m2) (.int m)⟩
  | _ => exact hp.elim
theorem xe_max1 {X : Cx} {k : Nat} {a : Expr} {ma : E D} {p pos : Pos} (kx : Kx X C W k) (hg : Gl X "max") (hm : X.mg "max" = none) (ha : XP X C W a ma) (h1 : S1 X a := by rfl) : XE X C W (.Call (.Name "max" p) [a] [] pos) (eb ma fun d => eP (dMaxL d)) := xe_b1 (cr_max kx.calm) (by rw [kx.hK]; exact o_maxL) ha hg hm rfl (by decide) (by decide) h1
theorem xe_min1 {X : Cx} {k : Nat} {a : Expr} {ma : E D} {p pos : Pos} (kx : Kx X C W k) (hg : Gl X "min") (hm : X.mg "min" = none) (ha : XP X C W a ma) (h1 : S1 X a := by rfl) : XE X C W (.Call (.Name "min" p) [a] [] pos) (eb ma fun d => eP (dMinL d)) := xe_b1 (cr_min kx.calm) (by rw [kx.hK]; exact o_minL) ha hg hm rfl (by decide) (by decide) h1
end
@[simp] theorem dInT_1 (i : Int) (ds : List D) (Q : D → Prop) : dInT (.int i) (.tup ds) Q = ∃ ns, intsOf ds = some ns ∧ Q (.bl (ns.any fun n => decide (n = i))) := propext Iff.rfl
@[simp] theorem dNotInT_1 (i : Int) (ds : List D) (Q : D → Prop) : dNotInT (.int i) (.tup ds) Q = ∃ ns, intsOf ds = some ns ∧ Q (.bl (!ns.any fun n => decide (n = i))) := propext Iff.rfl
@[simp] theorem dIsB_1 (a b : Bool) (Q : D → Prop) : dIsB (.bl a) (.bl b) Q = Q (.bl (decide (a = b))) := propext Iff.rfl
@[simp] theorem dNotB_1 (a b : Bool) (Q : D → Prop) : dNotB (.bl a) (.bl b) Q = Q (.bl (!decide (a = b))) := propext Iff.rfl
@[simp] theorem dMaxL_1 (ds : List D) (Q : D → Prop) : dMaxL (.lst ds) Q = ∃ ns, intsOf ds = some ns ∧ 0 < ns.length ∧ ∀ m, m ∈ ns → (∀ y, y ∈ ns → y ≤ m) → Q (.int m) := propext Iff.rfl
@[simp] theorem dMinL_1 (ds : List D) (Q : D → Prop) : dMinL (.lst ds) Q = ∃ ns, intsOf ds = some ns ∧ 0 < ns.length ∧ ∀ m, m ∈ ns → (∀ y, y ∈ ns → m ≤ y) → Q (.int m) := propext Iff.rfl
@[simp] theorem intsOf_0 : intsOf [] = some [] := by unfold intsOf; exact Eq.refl _
@[simp] theorem intsOf_1 (b : Int) (r : List D) : intsOf (.int b :: r) = (intsOf r).map (b :: ·) := by rw [intsOf]
end DL

namespace DL
open PySem PySem.Spec PyProof.Rows L2

section
variable {X : Cx} {C : CC} {W : WX} {e a b : Expr} {m ma mb : E D} {pos p : Pos} {k : Nat} {x y : Str}
theorem xo_op {op : Operator} {r : R2} {f : D → D → E (List D)} (h : OpR X (binaryOp op) r) (ho : Op2 C W r f (RO C)) (ha : XP X C W a ma) (hb : XP X C W b mb) : XO X C W (.BinOp a op b pos) (eb ma fun x => eb mb fun y => f x y) := by
  obtain ⟨ta, a1, a2⟩ := ha.ex
  obtain ⟨tb, b1, b2⟩ := hb.ex
  exact ⟨_, pe_op h a1 b1, den_op back_O a2 b2 ho⟩
/-! ## x += e of ints -/
def sAug (f : Int → Int → Int) (i : Nat) (m : E D) : E Fl := fun ρ Q X z => match ρ[i]? with
  | some (.fr (.int a)) => m ρ (fun d ρ' z' => match d with
    | .int b => Q .nx (ρ'.set i (.fr (.int (f a b)))) z'
    | _ => False) X z
  | _ => False
theorem xs_aug {op : Operator} {f : Int → Int → Int} (i : Nat) {pos' : Pos} (ho : PIp X op (ipI f)) (hN : X.N.Nodup) (hi : X.N[i]? = some x) (hx : Loc X.env.scope x) (he : XP X C W e m) (hf : X.fn x = true ∨ X.env.scope.names.lookup x = some .local := by first | exact .inl rfl | exact .inr rfl | assumption) :
    XS X C W (.AugAssign (.Name x pos') op e pos) (sAug f i m) := by
  obtain ⟨t, h1, h2⟩ := he.ex
  refine ⟨_, ps_aug hN hi hx h1 ho hf, fun σ ρ F H z Qd Xd Dn S hm hq hxx => ?_⟩
  unfold sAug at hm
  cases e0 : ρ[i]? with
  | none => rw [e0] at hm; exact hm.elim
  | some s =>
    rw [e0] at hm
    obtain ⟨v, e1, r⟩ := st_get S e0
    cases s with
    | no => exact hm.elim
    | own ds => exact hm.elim
    | fr d =>
      cases v with
      | none => exact r.elim
      | some v =>
        cases d with
        | int a =>
          have r' : C.R F v (.int a) := r
          cases r'
          refine ⟨_, e1, h2 σ ρ F H z _ Xd (fun y H1 => ipI f (.int a) y H1 fun w H2 => Dn.nx (σ.set i (some w)) H2) S hm (fun d ρ1 z1 v F1 H1 q1 S1 ff1 k1 o1 r1 => ?_) (fun e ρ' z' cls dd F' H' q S' ff r => hxx e ρ' z' cls dd σ F' H' q S' ff r)⟩
          cases d with
          | int b =>
            obtain rfl := RT.int (RK.now r1)
            exact ⟨a, b, rfl, rfl, hq _ _ _ _ _ q1 ff1 _ (S1.setF i (.int _))⟩
          | _ => exact False.elim q1
        | _ => exact hm.elim
/-! ## a, b = x, y where one is a new list -/
theorem kx_hide {q : Addr} (kx : Kx X C W k) : Kx X (C.hide q) W k := ⟨kx.hK, kx.hmg, kx.calm, kx.gu, kx.room, kx.tk, kx.nd, kx.po⟩
theorem StOk.hideO {σ : L2.St} {ρ : Rho} {F H : Hp} {z : Zs} {q : Addr} {o : HO} (S : StOk C σ ρ F H z) (hf : F q = none) (hp : H q = some o) (np : some q ≠ C.pa) (no : ∀ (i : Nat) ys, ρ[i]? = some (.own ys) → σ[i]? ≠ some (some (.ref q))) : StOk (C.hide q) σ ρ F H z :=
  ⟨S.sub, S.f0, S.h0, S.nw, S.len, fun i v s e1 e2 => by
    have h := S.env i v s e1 e2
    cases s with
    | no => cases v <;> trivial
    | fr d =>
      cases v with
      | none => exact h.elim
      | some v => exact h
    | own ds =>
      cases v with
      | none => exact h.elim
      | some v =>
        obtain ⟨a, xs, rfl, ha, hf', h0, np', r, nh⟩ := h
        exact ⟨a, xs, rfl, ha, hf', h0, np', r, fun m => (List.mem_cons.mp m).elim (fun w => no i ds e2 (by rw [e1, w])) nh⟩, S.apart, S.pz, (fun b hb => by
    rcases List.mem_cons.mp hb with e | hb
    · subst e
      exact ⟨hf, ⟨o, hp⟩, np⟩
    · exact S.hd b hb), S.cs⟩
def sParOF (i j : Nat) (mo : E (List D)) (me : E D) : E Fl := eb mo fun ds => eb me fun d ρ Q _ z => Q .nx ((ρ.set i (.own ds)).set j (.fr d)) z
theorem xs_parOF (i j : Nat) {px py pt : Pos} {kt k2 pt2} {mo : E (List D)} {me : E D} (kx : Kx X C W k) (hi : X.N[i]? = some x) (hj : X.N[j]? = some y) (hij : i ≠ j)
    (hx : X.env.scope.names.lookup x = some .local) (hy : X.env.scope.names.lookup y = some .local) (ha : XO X C W a mo) (hb : ∀ q, XE X (C.hide q) W b me)
    (hw : swappedStores [.Tuple [.Name x px, .Name y py] kt pt] (.Tuple [a, b] k2 pt2) X.env = pure (some [x, y]))
    (hs : swapsWithSole [.Tuple [.Name x px, .Name y py] kt pt] (.Tuple [a, b] k2 pt2) pos.line X.env = pure false := by rfl) (hp : starEach (a :: [b]) X.env = (false, eval a X.env) :: starEach [b] X.env := by rfl) (h1 : S1 X b := by rfl) :
    XS X C W (.Assign [.Tuple [.Name x px, .Name y py] kt pt] (.Tuple [a, b] k2 pt2) pos) (sParOF i j mo me) := by
  obtain ⟨ta, a1, a2⟩ := ha.ex
  let tU : TE := fun σ H Q => ∀ q : Addr, ∃ t, PE X b t ∧ t σ H Q
  have pU : PE X b tU := ⟨fun pins s σ H Q I h => by
    obtain ⟨t, g1, g2⟩ := h 0
    exact g1.run pins s σ H Q I g2⟩
  refine ⟨_, ps_par kx.calm kx.nd hi hj hij hx hy (pa2 a1 pU hp h1) hw hs, fun σ ρ F H z Qd Xd Dn S hm hq hxx => ?_⟩
  refine a2 σ ρ F H z _ Xd (fun u H1 => tU σ H1 fun v H2 => ∃ v' w', ([u, v] : List V) = [v', w'] ∧ Dn.nx ((σ.set i (some v')).set j (some w')) H2) S hm (fun ds ρ1 z1 u F1 H1 q1 S1 ff1 k1 o1 ⟨q, xs, e1, e2, e3, e4, e5, e6⟩ => ?_) (fun e ρ' z' cls dd F' H' q S' ff r => hxx e ρ' z' cls dd σ F' H' q S' ff r)
  subst e1
  intro _
  obtain ⟨tb, b1, b2⟩ := (hb q).ex
  have no1 := S.notOwn e4 o1
  have Sh := S1.hideO e3 e2 e5 no1
  refine ⟨tb, b1, b2 σ ρ1 F1 H1 z1 _ Xd _ Sh q1 (fun d ρ2 z2 v F2 H2 q2 S2 ff2 k2 o2 r2 => ?_) (fun e ρ' z' cls dd F' H' q S' ff r => hxx e ρ' z' cls dd σ F' H' q S'.unhide (ff1.trans ff) r)⟩
  obtain ⟨f2, _, _⟩ := S2.hd q List.mem_cons_self
  have h2 : H2 q = some (.lst xs) := k2.ke q _ e2 e5 (nog e3)
  refine ⟨_, _, rfl, hq .nx _ z2 F2 H2 q2 (ff1.trans ff2) _ ?_⟩
  exact (S2.unhide.setO i h2 f2 (S.h0None e4 e5) e5 (RpL.mono ff2 e6) (S.notOwn e4 (o2.trans o1)) (S.notHid e4)).setF j r2
def sParFO (i j : Nat) (me : E D) (mo : E (List D)) : E Fl := eb me fun d => eb mo fun ds ρ Q _ z => Q .nx ((ρ.set i (.fr d)).set j (.own ds)) z
theorem xs_parFO (i j : Nat) {px py pt : Pos} {kt k2 pt2} {mo : E (List D)} {me : E D} (kx : Kx X C W k) (hi : X.N[i]? = some x) (hj : X.N[j]? = some y) (hij : i ≠ j)
    (hx : X.env.scope.names.lookup x = some .local) (hy : X.env.scope.names.lookup y = some .local) (ha : XE X C W a me) (hb : XO X C W b mo)
    (hw : swappedStores [.Tuple [.Name x px, .Name y py] kt pt] (.Tuple [a, b] k2 pt2) X.env = pure (some [x, y]))
    (hs : swapsWithSole [.Tuple [.Name x px, .Name y py] kt pt] (.Tuple [a, b] k2 pt2) pos.line X.env = pure false := by rfl) (hp : starEach (a :: [b]) X.env = (false, eval a X.env) :: starEach [b] X.env := by rfl) (h1 : S1 X b := by rfl) :
    XS X C W (.Assign [.Tuple [.Name x px, .Name y py] kt pt] (.Tuple [a, b] k2 pt2) pos) (sParFO i j me mo) := by
  obtain ⟨ta, a1, a2⟩ := ha.ex
  obtain ⟨tb, b1, b2⟩ := hb.ex
  refine ⟨_, ps_par kx.calm kx.nd hi hj hij hx hy (pa2 a1 b1 hp h1) hw hs, fun σ ρ F H z Qd Xd Dn S hm hq hxx => ?_⟩
  refine a2 σ ρ F H z _ Xd (fun u H1 => tb σ H1 fun v H2 => ∃ v' w', ([u, v] : List V) = [v', w'] ∧ Dn.nx ((σ.set i (some v')).set j (some w')) H2) S hm (fun d ρ1 z1 u F1 H1 q1 S1 ff1 k1 o1 r1 => ?_) (fun e ρ' z' cls dd F' H' q S' ff r => hxx e ρ' z' cls dd σ F' H' q S' ff r)
  refine b2 σ ρ1 F1 H1 z1 _ Xd _ S1 q1 (fun ds ρ2 z2 v F2 H2 q2 S2 ff2 k2 o2 ⟨q, xs, e1, e2, e3, e4, e5, e6⟩ => ?_) (fun e ρ' z' cls dd F' H' q S' ff r => hxx e ρ' z' cls dd σ F' H' q S' (ff1.trans ff) r)
  subst e1
  refine ⟨_, _, rfl, hq .nx _ z2 F2 H2 q2 (ff1.trans ff2) _ ?_⟩
  have Sf := S2.setF i (Rp.mono ff2 r1)
  refine Sf.setO j e2 e3 (S1.h0None e4 e5) e5 e6 (fun l ys g1 g2 => ?_) (S1.notHid e4)
  rcases get_set g1 with ⟨_, h, _⟩ | ⟨hne, h⟩
  · cases h
  · rw [List.getElem?_set_ne (Ne.symm hne)] at g2
    exact S1.notOwn e4 o2 l ys h g2
end
@[simp] theorem sAug_a (f : Int → Int → Int) (i : Nat) (m : E D) (t : Sl) (ρ : Rho) (Q : Fl → Rho → Zs → Prop) (X : Er → Rho → Zs → Prop) (z : Zs) : sAug f i m (t :: ρ) Q X z = (match (t :: ρ)[i]? with
  | some (.fr (.int a)) => m (t :: ρ) (fun d ρ' z' => match d with
    | .int b => Q .nx (ρ'.set i (.fr (.int (f a b)))) z'
    | _ => False) X z
  | _ => False) := propext Iff.rfl
@[simp] theorem sParOF_a (i j : Nat) (mo : E (List D)) (me : E D) (ρ : Rho) (Q : Fl → Rho → Zs → Prop) (X : Er → Rho → Zs → Prop) (z : Zs) : sParOF i j mo me ρ Q X z = mo ρ (fun ds ρ1 z1 => me ρ1 (fun d ρ2 z2 => Q .nx ((ρ2.set i (.own ds)).set j (.fr d)) z2) X z1) X z := propext Iff.rfl
@[simp] theorem sParFO_a (i j : Nat) (mo : E (List D)) (me : E D) (ρ : Rho) (Q : Fl → Rho → Zs → Prop) (X : Er → Rho → Zs → Prop) (z : Zs) : sParFO i j me mo ρ Q X z = me ρ (fun d ρ1 z1 => mo ρ1 (fun ds ρ2 z2 => Q .nx ((ρ2.set i (.fr d)).set j (.own ds)) z2) X z1) X z := propext Iff.rfl

/-! ## [..] * n -/
def fRep : D → D → E (List D)
  | .lst ds, .int k => fun ρ Q _ z => (-(2 ^ 63) ≤ k ∧ k < 2 ^ 63 ∧ ds.length * k.toNat ≤ 16777216) ∧ Q (List.replicate k.toNat ds).flatten ρ z
  | _, _ => eStuck
abbrev bM (ma mb : E D) : E (List D) := eb ma fun x => eb mb fun y => fRep x y
theorem RpL.rep {K : PySem.W.Frag} {mg : Str → Option Value} {pa : Option Addr} {F : Hp} {vs : List V} {ds : List D} (h : RpL K mg pa F vs ds) : ∀ n : Nat, RpL K mg pa F (List.replicate n vs).flatten (List.replicate n ds).flatten
  | 0 => .nil
  | n + 1 => by
    rw [List.replicate_succ, List.replicate_succ, List.flatten_cons, List.flatten_cons]
    exact RpL.append h (RpL.rep h n)
theorem o_rep {C : CC} {W : WX} : Op2 C W rRep fRep (RO C) := fun σ ρ F H z x y dx dy Qd Xd Q S rx ry hm hq hx => by
  unfold fRep at hm
  split at hm
  · obtain ⟨⟨h1, h2, h3⟩, hm⟩ := hm
    obtain rfl := RT.int ry
    obtain ⟨a, xs, rfl, ha, r, _⟩ := RT.lst S.sub rx
    exact ⟨a, _, xs, rfl, rfl, ha, h1, h2, by rw [RpL.length r]; exact line_le h3, fun p hp => S.newL hp (RpL.rep r _) hm hq⟩
  · exact False.elim hm
@[simp] theorem fRep_1 (ds : List D) (k : Int) (ρ : Rho) (Q : List D → Rho → Zs → Prop) (X : Er → Rho → Zs → Prop) (z : Zs) : fRep (.lst ds) (.int k) ρ Q X z = ((-(2 ^ 63) ≤ k ∧ k < 2 ^ 63 ∧ ds.length * k.toNat ≤ 16777216) ∧ Q (List.replicate k.toNat ds).flatten ρ z) := propext Iff.rfl

/-! ## the same where the names are no plain locals: a tuple is laid and taken apart -/
section
variable {X : Cx} {C : CC} {W : WX} {a b : Expr} {pos : Pos} {k : Nat} {x y : Str}
theorem xs_parFO2 (i j : Nat) {px py pt : Pos} {kt k2 pt2} {mo : E (List D)} {me : E D} (kx : Kx X C W k) (hgi : PG X (.Name x px) (gName i)) (hgj : PG X (.Name y py) (gName j)) (hij : i ≠ j) (ha : XE X C W a me) (hb : XO X C W b mo)
    (hw : swappedStores [.Tuple [.Name x px, .Name y py] kt pt] (.Tuple [a, b] k2 pt2) X.env = pure none)
    (hs : swapsWithSole [.Tuple [.Name x px, .Name y py] kt pt] (.Tuple [a, b] k2 pt2) pos.line X.env = pure false := by rfl) (hp : starEach (a :: [b]) X.env = (false, eval a X.env) :: starEach [b] X.env := by rfl) (h1 : S1 X b := by rfl)
    (g1 : (assignEach [.Name x px, .Name y py] X.env).map (·.2) = assign (.Name x px) X.env :: (assignEach [.Name y py] X.env).map (·.2) := by rfl) (g2 : (assignEach [.Name y py] X.env).map (·.2) = assign (.Name y py) X.env :: (assignEach [] X.env).map (·.2) := by rfl)
    (hn : (assignEach [.Name x px, .Name y py] X.env).length = 2 := by rfl) (hst : (assignEach [.Name x px, .Name y py] X.env).findIdx? (·.1) = none := by rfl)
    (ht : (assignEach [.Tuple [.Name x px, .Name y py] kt pt] X.env).map (·.2) = [assign (.Tuple [.Name x px, .Name y py] kt pt) X.env] := by rfl) :
    XS X C W (.Assign [.Tuple [.Name x px, .Name y py] kt pt] (.Tuple [a, b] k2 pt2) pos) (sParFO i j me mo) := by
  obtain ⟨ta, a1, a2⟩ := ha.ex
  obtain ⟨tb, b1, b2⟩ := hb.ex
  refine ⟨_, ps_asg (pe_tup (pa2 a1 b1 hp h1)) (pg_tup kx.calm (pgs_cons hgi (pgs_cons hgj pgs_nil g2) g1) hn hst) hs hw ht, fun σ ρ F H z Qd Xd Dn S hm hq hxx => ?_⟩
  refine a2 σ ρ F H z _ Xd _ S hm (fun d ρ1 z1 u F1 H1 q1 S1 ff1 k1 o1 r1 => ?_) (fun e ρ' z' cls dd F' H' q S' ff r => hxx e ρ' z' cls dd σ F' H' q S' ff r)
  refine b2 σ ρ1 F1 H1 z1 _ Xd _ S1 q1 (fun ds ρ2 z2 v F2 H2 q2 S2 ff2 k2 o2 ⟨q, xs, e1, e2, e3, e4, e5, e6⟩ => ?_) (fun e ρ' z' cls dd F' H' q S' ff r => hxx e ρ' z' cls dd σ F' H' q S' (ff1.trans ff) r)
  subst e1
  refine ⟨by show 2 ≤ sizeLine; rw [sizeLine_eq]; omega, fun t ht0 => ?_⟩
  have ne : q ≠ t := fun w => by rw [w, ht0] at e2; cases e2
  refine ⟨t, [u, .ref q], rfl, .inl (.inl upd_same), rfl, u, [.ref q], rfl, .ref q, [], rfl, rfl, ?_⟩
  have S3 := S2.newH (o := .tup [u, .ref q]) ht0
  have Sf := S3.setF i (Rp.mono ff2 r1)
  refine hq .nx _ z2 F2 _ q2 (ff1.trans ff2) _ (Sf.setO j (by rw [upd_ne ne]; exact e2) e3 (S1.h0None e4 e5) e5 e6 (fun l ys g1 g2 => ?_) (S1.notHid e4))
  rcases get_set g1 with ⟨_, h, _⟩ | ⟨hne, h⟩
  · cases h
  · rw [List.getElem?_set_ne (Ne.symm hne)] at g2
    exact S1.notOwn e4 o2 l ys h g2
end
end DL

namespace DL
open PySem PySem.Spec PyProof.Rows L2

/-! ## a call that only reads one's own lists: what was frozen for it is taken back -/
mutual
def D.noL : D → Bool
  | .lst _ => false
  | .scr _ => false
  | .mc _ => false
  | .tup ds => noLL ds
  | .ins _ _ ds => noLL ds
  | .dic _ ds => noLL ds
  | .exn _ _ _ e => e.noL
  | _ => true
def noLL : List D → Bool
  | [] => true
  | d :: r => d.noL && noLL r
end
open Classical in
noncomputable def cutF (P : Addr → Prop) (F : Hp) : Hp := fun b => if P b then none else F b
section
variable {K : PySem.W.Frag} {mg : Str → Option Value} {pa : Option Addr} {F H : Hp} {P : Addr → Prop}
theorem cutF_sub : Same (cutF P F) F := fun b u e => by
  unfold cutF at e
  split at e
  · cases e
  · exact e
theorem cutF_in {a : Addr} {o : HO} (sub : Sub F H) (hP : ∀ b, P b → ∃ xs, H b = some (.lst xs)) (h : F a = some o) (g : NG o) (n : ∀ xs, o ≠ .lst xs) : cutF P F a = some o := by
  unfold cutF
  rw [if_neg fun p => ?_]
  · exact h
  · obtain ⟨xs, e⟩ := hP a p
    have := sub _ _ h g
    rw [e] at this
    cases this
    exact n xs rfl
theorem cutF_rd {a : Addr} {u : HO} (sub : Sub F H) (hP : ∀ b, P b → ∃ xs, H b = some (.lst xs)) (g : NG u) (n : ∀ xs, u ≠ .lst xs) (h : Rd F a u) : Rd (cutF P F) a u := by
  rcases h with h | ⟨o, h⟩
  · exact .inl (cutF_in sub hP h g n)
  · exact .inr ⟨o, cutF_in sub hP h (fun _ e => by cases e) (fun _ e => by cases e)⟩
mutual
theorem Rp.rl (sub : Sub F H) (hP : ∀ b, P b → ∃ xs, H b = some (.lst xs)) : ∀ {d : D} {v : V}, d.noL = true → Rp K mg pa F v d → Rp K mg pa (cutF P F) v d
  | .non, _, _, h => by cases h; exact .non
  | .bl _, _, _, h => by cases h; exact .bl _
  | .int _, _, _, h => by cases h; exact .int _
  | .str _, _, _, h => by cases h; exact .str _
  | .lst _, _, c, _ => by cases c
  | .tup _, _, c, h => by cases h with | tup e r => exact .tup (e.elim (fun w => .inl (cutF_rd sub hP ngT (fun _ q => by cases q) w)) .inr) (RpL.rl sub hP c r)
  | .cel, _, _, h => by cases h with | cel e => exact .cel e
  | .ins _ _ _, _, c, h => by cases h with | ins g e l r => exact   .ins g (cutF_in sub hP e ngI (fun _ q => by cases q)) l (RpL.rl sub hP c r)
  | .dic _ _, _, c, h => by cases h with | dic e l r => exact .dic (cutF_rd sub hP ngD (fun _ q => by cases q) e) l (RpL.rl sub hP c r)
  | .exn _ _ _ _, _, c, h => by cases h with | exn e r => exact .exn (cutF_in sub hP e ngX (fun _ q => by cases q)) (Rp.rl sub hP c r)
  | .scr _, _, c, _ => by cases c
  | .mc _, _, c, _ => by cases c
theorem RpL.rl (sub : Sub F H) (hP : ∀ b, P b → ∃ xs, H b = some (.lst xs)) : ∀ {ds : List D} {vs : List V}, noLL ds = true → RpL K mg pa F vs ds → RpL K mg pa (cutF P F) vs ds
  | [], _, _, h => by cases h; exact .nil
  | d :: r, _, c, h => by
    obtain ⟨c1, c2⟩ := Bool.and_eq_true_iff.mp (show (d.noL && noLL r) = true from c)
    cases h with | cons a b => exact .cons (Rp.rl sub hP c1 a) (RpL.rl sub hP c2 b)
end
end
section
variable {C : CC} {W : WX} {X : Cx} {e : Expr} {σ : L2.St} {ρ ρ' : Rho} {F F' H H' : Hp} {z z' : Zs}
/-- where the own lists lie -/
def OwnA (σ : L2.St) (ρ : Rho) (b : Addr) : Prop := ∃ (i : Nat) (ds : List D), ρ[i]? = some (.own ds) ∧ σ[i]? = some (some (.ref b))
theorem StOk.ownL (S : StOk C σ ρ F H z) (hk : Keep C.pa F F' H H') : ∀ b, OwnA σ ρ b → ∃ xs, H' b = some (.lst xs) := fun b ⟨i, ds, e1, e2⟩ => by
  obtain ⟨a, xs, e3, ha, hf, h0, np, r, nh⟩ := S.env i _ _ e2 e1
  cases e3
  exact ⟨xs, hk.ke b _ ha np (nog hf)⟩
theorem StOk.roll (S : StOk C σ ρ F H z) (S' : StOk C σ ρ' F' H' z') (ff : Same F F') (hk : Keep C.pa F F' H H') (hz : z'.cs = []) : StOk C σ ρ (cutF (OwnA σ ρ) F') H' z' ∧ Same F (cutF (OwnA σ ρ) F') ∧ Keep C.pa F (cutF (OwnA σ ρ) F') H H' := by
  have fc : Same F (cutF (OwnA σ ρ) F') := fun b o h => by
    unfold cutF
    have np : ¬ OwnA σ ρ b := fun ⟨i, ds, e1, e2⟩ => by
      obtain ⟨a, xs, e3, ha, hf, _⟩ := S.env i _ _ e2 e1
      cases e3
      rw [h] at hf
      cases hf
    rw [if_neg np]
    exact ff _ _ h
  have cn : ∀ b, F' b = none → cutF (OwnA σ ρ) F' b = none := fun b h => by
    unfold cutF
    split
    · rfl
    · exact h
  have ng := cs_ng S'.cs hz
  have ngc : ∀ b k, cutF (OwnA σ ρ) F' b ≠ some (gh k) := fun b k e => ng b k (cutF_sub _ _ e)
  refine ⟨⟨cutF_sub.subT S'.sub, S.f0.trans fc, ⟨S'.h0.ke, fun b k e => absurd e (ngc b k), S'.h0.dm⟩, fun b h1 h2 => S'.nw b (fun q => h1 (cn b q)) h2, S.len, fun i v s e1 e2 => ?_, S.apart, fun p e => ?_, fun b hb => ?_, hz ▸ cs_nil ngc⟩, fc, ⟨hk.ke, fun b k e => absurd e (ngc b k), hk.dm⟩⟩
  · have h := S.env i v s e1 e2
    cases s with
    | no => cases v <;> trivial
    | fr d =>
      cases v with
      | none => exact h.elim
      | some v => exact Rp.mono fc h
    | own ds =>
      cases v with
      | none => exact h.elim
      | some v =>
        obtain ⟨a, xs, rfl, ha, hf, h0, np, r, nh⟩ := h
        refine ⟨a, xs, rfl, hk.ke a _ ha np (nog hf), ?_, h0, np, RpL.mono fc r, nh⟩
        unfold cutF
        rw [if_pos ⟨i, ds, e2, e1⟩]
  · obtain ⟨h1, r⟩ := S'.pz p e
    exact ⟨cn p h1, r⟩
  · obtain ⟨h1, r⟩ := S'.hd b hb
    exact ⟨cn b h1, r⟩
end
def eRoll (m : E D) : E D := fun ρ Q X z => m ρ (fun d _ z' => (d.noL = true ∧ z'.cs = []) ∧ Q d ρ z') X z
def eRollO (m : E (List D)) : E (List D) := fun ρ Q X z => m ρ (fun d _ z' => (noLL d = true ∧ z'.cs = []) ∧ Q d ρ z') X z
section
variable {C : CC} {W : WX} {X : Cx} {e : Expr}
theorem xe_roll {m : E D} (h : XE X C W e m) : XE X C W e (eRoll m) := by
  obtain ⟨t, h1, h2⟩ := h.ex
  refine ⟨t, h1, fun σ ρ F H z Qd Xd Q S hm hq hx => h2 σ ρ F H z _ Xd Q S hm (fun d ρ' z' b F' H' q S' ff hk ol r => ?_) hx⟩
  obtain ⟨S2, f2, k2⟩ := S.roll S' ff hk q.1.2
  exact hq d ρ z' b _ H' q.2 S2 f2 k2 Ole.refl (Rp.rl S'.sub (S.ownL hk) q.1.1 r)
theorem xo_roll {m : E (List D)} (h : XO X C W e m) : XO X C W e (eRollO m) := by
  obtain ⟨t, h1, h2⟩ := h.ex
  refine ⟨t, h1, fun σ ρ F H z Qd Xd Q S hm hq hx => h2 σ ρ F H z _ Xd Q S hm (fun d ρ' z' b F' H' q S' ff hk ol r => ?_) hx⟩
  obtain ⟨S2, f2, k2⟩ := S.roll S' ff hk q.1.2
  obtain ⟨a, xs, e1, e2, e3, e4, e5, e6⟩ := r
  refine hq d ρ z' b _ H' q.2 S2 f2 k2 Ole.refl ⟨a, xs, e1, e2, ?_, e4, e5, RpL.rl S'.sub (S.ownL hk) q.1.1 e6⟩
  unfold cutF
  split
  · rfl
  · exact e3
theorem xp_roll {m : E D} (h : XE X C W e m) : XP X C W e (eRoll m) := (xe_roll h).p
end
section
variable (m : E D) (mo : E (List D)) (ρ : Rho) (Q : D → Rho → Zs → Prop) (Ql : List D → Rho → Zs → Prop) (X : Er → Rho → Zs → Prop) (z : Zs)
@[simp] theorem eRoll_a : eRoll m ρ Q X z = m ρ (fun d _ z' => (d.noL = true ∧ z'.cs = []) ∧ Q d ρ z') X z := propext Iff.rfl
@[simp] theorem eRollO_a : eRollO mo ρ Ql X z = mo ρ (fun d _ z' => (noLL d = true ∧ z'.cs = []) ∧ Ql d ρ z') X z := propext Iff.rfl
@[simp] theorem noL_1 (i : Int) : (D.int i).noL = true := by unfold D.noL; exact Eq.refl _
@[simp] theorem noL_2 (i : Bool) : (D.bl i).noL = true := by unfold D.noL; exact Eq.refl _
@[simp] theorem noL_3 (i : Str) : (D.str i).noL = true := by unfold D.noL; exact Eq.refl _
@[simp] theorem noL_4 : D.non.noL = true := by unfold D.noL; exact Eq.refl _
@[simp] theorem noL_5 (ds : List D) : (D.tup ds).noL = noLL ds := by rw [D.noL]
@[simp] theorem noLL_1 : noLL [] = true := by unfold noLL; exact Eq.refl _
@[simp] theorem noLL_2 (d : D) (ds : List D) : noLL (d :: ds) = (d.noL && noLL ds) := by rw [noLL]
end
end DL

namespace DL
open PySem PySem.Spec PyProof.Rows L2

/-! ## isinstance(e, (c1, c2, ..)) of the error that the suite holds -/
section
variable {X : Cx} {C : CC} {W : WX} {cv : Value} {n x : Str} {np p pos tpos : Pos}
def tCs : List V → TA
  | [] => tNil
  | y :: ys => tCons (tC y) (tCs ys)
theorem tCs_run : ∀ (ys : List V) (σ : L2.St) (H : Hp) (Q : List V → Hp → Prop), Q ys H → tCs ys σ H Q
  | [], _, _, _, h => h
  | y :: ys, σ, H, Q, h => tCs_run ys σ H _ h
/-- the tables of the classes, one behind another -/
def orT : List (Str → Option Bool) → Str → Option Bool
  | [], _ => some false
  | t :: r, nm => match t nm with
    | some true => some true
    | some false => orT r nm
    | none => none
inductive ClX (X : Cx) (A : Addr) (nm : Str) : List Expr → List (Str → Option Bool) → List V → List Value → Prop
  | nil : ClX X A nm [] [] [] []
  | cons {e : Expr} {t : Str → Option Bool} {y : V} {cv : Value} {es ts ys cvs} : (∀ b, t nm = some b → PySem.W.kitOne X.K (.ref A) cv = some b) → PE X e (tC y) → (∀ u, RelV y u → u = cv) → starEach (e :: es) X.env = (false, eval e X.env) :: starEach es X.env → ClX X A nm es ts ys cvs → ClX X A nm (e :: es) (t :: ts) (y :: ys) (cv :: cvs)
theorem ClX.pa {A : Addr} {nm : Str} : ∀ {es ts ys cvs}, ClX X A nm es ts ys cvs → PA X es (tCs ys)
  | _, _, _, _, .nil => pa_nil
  | _, _, _, _, .cons _ h2 _ h4 r => pa_cons h2 r.pa h4
theorem ClX.vals {A : Addr} {nm : Str} : ∀ {es ts ys cvs} {ws : List Value}, ClX X A nm es ts ys cvs → Vals ys ws → ws = cvs
  | _, _, _, _, _, .nil, .nil => rfl
  | _, _, _, _, _, .cons _ _ h3 _ r, .cons a b => by rw [h3 _ a, r.vals b]
theorem ClX.any {A : Addr} {nm : Str} : ∀ {es ts ys cvs} {b : Bool}, ClX X A nm es ts ys cvs → orT ts nm = some b → PySem.W.kitAny X.K (.ref A) cvs = some b
  | _, _, _, _, b, .nil, h => by cases h; rfl
  | _, _, _, _, b, .cons (t := t) h1 _ _ _ r, h => by
    unfold orT at h
    cases e : t nm with
    | none => rw [e] at h; cases h
    | some b' =>
      rw [e] at h
      have k := h1 b' e
      cases b' with
      | true => cases h; exact kitAny_cons k (fun q => nomatch q) fun _ => rfl
      | false => exact kitAny_cons k (fun _ => r.any h) fun q => nomatch q
theorem ClX.len {A : Addr} {nm : Str} : ∀ {es ts ys cvs}, ClX X A nm es ts ys cvs → ys.length = es.length
  | _, _, _, _, .nil => rfl
  | _, _, _, _, .cons _ _ _ _ r => by simp [r.len]
def rIsXT (K : PySem.W.Frag) (A a dx : Addr) (ys : List V) (P : List Value → Prop) : R2 := fun x y H Q => ∃ tp b, x = .ref a ∧ y = .ref tp ∧ H tp = some (.tup ys) ∧ (∃ fs, H dx = some (.xd fs)) ∧ (∀ ws, Vals ys ws → PySem.W.kitAny K (.ref A) ws = some b) ∧ Q (.bl b) H
theorem call_isXT {a A dx : Addr} {oe : Obj} {pn : List (Addr × Obj)} {ys : List V} {P : List Value → Prop} (T : ExcC X.K A) (hz : Zc (.ref A) (some dx) oe) (hf : ∃ vs, oe.data = .fields vs) : CallR (X.suite a ((a, oe) :: pn)) (.builtin "isinstance") (fun xs H Q => ∃ x y, xs = [x, y] ∧ rIsXT X.K A a dx ys P x y H Q) := by
  intro pins s σ H xs us Q I r h
  obtain ⟨x, y, rfl, tp, b, rfl, rfl, hT, ⟨fs, hd⟩, e, q⟩ := h
  cases r with
  | cons rx rr =>
    cases rr with
    | cons rt rr =>
      cases rr
      cases rx
      cases rt
      obtain ⟨hget, _⟩ := I.pin (a, oe) (List.mem_append.mpr (.inl List.mem_cons_self))
      obtain ⟨vs, hv⟩ := hf
      have hx : ObjOk X.prog X.w H s.heap dx (.xd fs) := I.hok dx _ hd
      obtain ⟨mA, hns, hr⟩ := hx
      obtain ⟨od, ho, hl⟩ := lookIn_ns hns
      have J : PySem.W.InstAt s.heap a oe A (some od) := by
        refine ⟨hget, hz.1, ?_, ?_⟩
        · unfold PySem.W.notCls
          rw [hv] <;> rfl
        · rw [hz.2]
          exact ho
      have hcl : (PySem.W.clsIn X.K A).isSome = true := by
        obtain ⟨cd, hc, _⟩ := PySem.W.any_some T.hd
        rw [hc]
        rfl
      obtain ⟨_, its, rv, o, h1, h2, n, h3⟩ := (show ObjOk X.prog X.w H s.heap tp (.tup ys) from I.hok tp _ hT)
      obtain ⟨oc, od2, dt, sl⟩ := o
      simp only at h2 h3
      subst h2 h3
      exact PySem.W.kia_tup (PySem.W.kitx_exc (od := some od) hcl T.hg T.hk T.hs T.ha T.hn T.ht T.hm) I.kIn J h1 (e _ rv) (fun z => nomatch z) fun tk => ⟨.bl b, H, I.kept (t' := tk) fun _ _ z => z, rfl, q⟩
theorem xe_isXT {a A : Addr} {dx : Addr} {oe : Obj} {pn : List (Addr × Obj)} {nm : Str} {ts : List (Str → Option Bool)} {ys : List V} {cvs : List Value} {es : List Expr} {x1} (hK : X.K = C.K) (T : ExcC X.K A) (hz : Zc (.ref A) (some dx) oe) (hf : ∃ vs, oe.data = .fields vs) (i : Nat)
    (hv : PE (X.suite a ((a, oe) :: pn)) (.Name n np) (tVar i)) (cl : ClX (X.suite a ((a, oe) :: pn)) A nm es ts ys cvs) (hl : es.length ≤ 100)
    (hg : Gl X "isinstance") (hm : X.mg "isinstance" = none) (hp : starEach (.Name n np :: [.Tuple es x1 tpos]) X.env = (false, eval (.Name n np) X.env) :: starEach [.Tuple es x1 tpos] X.env := by rfl) (hpl : (backTo pos (starEach [.Tuple es x1 tpos] X.env)).any (·.1) = false := by rfl) (h1 : S1 X (.Tuple es x1 tpos) := by rfl) :
    XE (X.suite a ((a, oe) :: pn)) C W (.Call (.Name "isinstance" p) [.Name n np, .Tuple es x1 tpos] [] pos) (eIsX i a dx nm (orT ts)) := by
  refine ⟨_, pe_callB (call_isXT (pn := pn) (ys := ys) (P := fun _ => True) T hz hf) hg hm rfl (pa2 hv (pe_tup cl.pa) hp h1) (by decide) (by decide) hp hpl, fun σ ρ F H z Qd Xd Q S hm' hq hx => ?_⟩
  unfold eIsX at hm'
  cases e : ρ[i]? with
  | none => rw [e] at hm'; exact hm'.elim
  | some s =>
    rw [e] at hm'
    obtain ⟨v, e1, r⟩ := st_get S e
    cases s with
    | no => exact hm'.elim
    | own ds => exact hm'.elim
    | fr d =>
      cases v with
      | none => exact r.elim
      | some v =>
        cases d with
        | exn a' x' c' d =>
          obtain ⟨⟨rfl, rfl, rfl⟩, b, hb, hm'⟩ := hm'
          have r' : C.R F v (.exn a' x' c' d) := r
          cases r' with
          | exn g4 g5 =>
            refine ⟨_, e1, tCs_run ys _ _ _ ⟨by rw [cl.len, sizeLine_eq]; omega, fun tp htp => ?_⟩⟩
            have hd := S.sub _ _ g4 ngX
            refine ⟨_, _, rfl, tp, b, rfl, rfl, upd_same, ⟨_, by rw [upd_ne (ne_of_none hd htp)]; exact hd⟩, fun ws hw => ?_, ?_⟩
            · rw [cl.vals hw]
              exact cl.any hb
            · exact hq _ ρ z _ F _ hm' (S.newH htp) (Same.refl F) (Keep.new htp) Ole.refl (.bl b)
        | _ => exact hm'.elim
/-! ## sorted(xs), a few whole numbers -/
def fSort : D → E (List D)
  | .lst ds => fun ρ Q _ z => ∃ ns, intsOf ds = some ns ∧ ns.length < 64 ∧ ∀ ns' : List Int, ns'.Perm ns → ns'.Pairwise (· ≤ ·) → Q (ns'.map .int) ρ z
  | _ => eStuck
theorem RpL.ofInts {K : PySem.W.Frag} {mg : Str → Option Value} {pa : Option Addr} {F : Hp} : ∀ ns : List Int, RpL K mg pa F (ns.map V.int) (ns.map D.int)
  | [] => .nil
  | n :: r => .cons (.int n) (RpL.ofInts r)
theorem o_sorted : Op1 C W (fun x H Q => rSorted C.K [x] H Q) fSort (RO C) := by
  intro σ ρ F H z x dx Qd Xd Q S rx hm hq hx
  cases dx with
  | lst ds =>
    obtain ⟨ns, h1, h2, q⟩ := hm
    obtain ⟨a, xs, rfl, ha, r, np⟩ := RT.lst S.sub rx
    have e := RpL.ints r h1
    subst e
    refine ⟨a, ns, rfl, .inl (.inl ha), h2, fun ns' p hp hs hn => ?_⟩
    exact S.newL hn (RpL.ofInts ns') (q ns' hp hs) hq
  | _ => exact hm.elim
theorem xo_sorted {k : Nat} {a : Expr} {ma : E D} (kx : Kx X C W k) (hg : Gl X "sorted") (hm : X.mg "sorted" = none) (ha : XP X C W a ma) (h1 : S1 X a := by rfl) : XO X C W (.Call (.Name "sorted" p) [a] [] pos) (eb ma fSort) := xo_b1 cr_sorted (by rw [kx.hK]; exact o_sorted) ha hg hm rfl (by decide) (by decide) h1
end
@[simp] theorem fSort_1 (ds : List D) (ρ : Rho) (Q : List D → Rho → Zs → Prop) (X : Er → Rho → Zs → Prop) (z : Zs) : fSort (.lst ds) ρ Q X z = ∃ ns, intsOf ds = some ns ∧ ns.length < 64 ∧ ∀ ns' : List Int, ns'.Perm ns → ns'.Pairwise (· ≤ ·) → Q (ns'.map .int) ρ z := propext Iff.rfl
/-! ## repr(x), x a truth, too -/
def bStr (b : Bool) : Str := if b then "True" else "False"
def dReprX : P1
  | .bl b, Q => Q (.str (bStr b))
  | d, Q => dRepr d Q
def rReprX (K : PySem.W.Frag) : List V → Hp → VK → Prop := fun xs H Q => (∃ b, xs = [V.bl b] ∧ Q (.str (bStr b)) H) ∨ rRepr K xs H Q
section
variable {X : Cx} {C : CC} {W : WX} {p pos : Pos}
theorem call_reprX (hg : X.A.guards = some []) (hu : X.A.units + 65 < cLine) : CallR X (.builtin "repr") (rReprX X.K) := by
  intro pins s σ H xs us Q I r h
  rcases h with ⟨b, rfl, q⟩ | h
  · cases r with
    | cons ru rn =>
      cases rn
      obtain rfl : _ = Value.bool b := ru
      exact call_repr_gives (PySem.typeIs_bool s b) F.slot_bool_repr F.entry_bool_repr (F.args_bool_repr_1 _) (gives_bool_repr b) ⟨.str (bStr b), H, I.tok _, ⟨_, rfl⟩, q⟩ rfl (by cases b <;> decide)
  · exact call_reprD hg hu pins s σ H xs us Q I r h
theorem o_reprX : Op1 C W (fun x H Q => rReprX C.K [x] H Q) (fun d => eP (dReprX d)) (kR C) := by
  intro σ ρ F H z x dx Qd Xd Q S rx hm hq hx
  cases dx with
  | bl b => obtain rfl := RT.bl rx; exact .inl ⟨b, rfl, S.same (R := kR C) hm (.str _) hq⟩
  | _ => exact .inr (o_repr σ ρ F H z x _ Qd Xd Q S rx hm hq hx)
theorem xe_reprX {k : Nat} {a : Expr} {ma : E D} (kx : Kx X C W k) (hg : Gl X "repr") (hm : X.mg "repr" = none) (ha : XP X C W a ma) (h1 : S1 X a := by rfl) : XE X C W (.Call (.Name "repr" p) [a] [] pos) (eb ma fun d => eP (dReprX d)) := xe_b1 (call_reprX kx.gu kx.hu) (by rw [kx.hK]; exact o_reprX) ha hg hm rfl (by decide) (by decide) h1
end
@[simp] theorem dReprX_1 (ds : List D) (Q : D → Prop) : dReprX (.lst ds) Q = (reprOk (.lst ds) ∧ Q (.str (D.lst ds).py.shown)) := propext Iff.rfl
@[simp] theorem dReprX_2 (ds : List D) (Q : D → Prop) : dReprX (.tup ds) Q = (reprOk (.tup ds) ∧ Q (.str (D.tup ds).py.shown)) := propext Iff.rfl
@[simp] theorem dReprX_3 (b : Bool) (Q : D → Prop) : dReprX (.bl b) Q = Q (.str (bStr b)) := propext Iff.rfl
section
variable {X : Cx} {C : CC} {W : WX} {e : Expr} {m : E D} {x : Str} {p p1 p2 p3 pos : Pos}
/-- x.append(e) where a suite holds an error -/
theorem xs_appH (i : Nat) (hv : PE X (.Name x p) (tVar i)) (ha : XE X C W e m) (h1 : S1 X e := by rfl)
    (hbase : attributeBase (.Name x p) "append" X.env (eval (.Name x p) X.env) = eval (.Name x p) X.env := by rfl)
    (hfew : ((backTo p2 (starEach (e :: []) X.env)).all (fun x => !x.1) && (backToKw p2 (keywordEach [] X.env)).all (fun x => x.1.isSome)
      && decide ((e :: ([] : List Expr)).length + ([] : List Keyword).length + (if ([] : List Keyword).isEmpty then 0 else 1) < 30)) = true := by rfl)
    (hline : (p1.endLine == p2.line) = true := by rfl) (hs : swapsWith (.Call (.Attribute (.Name x p) "append" p1) [e] [] p2) none p3.line X.env = pure false := by rfl) :
    XS X C W (.Expr (.Call (.Attribute (.Name x p) "append" p1) [e] [] p2) p3) (sApp i m) := by
  obtain ⟨t, t1, t2⟩ := ha.ex
  refine ⟨_, ps_expr (pe_bm PySem.F.plainAttrs_list F.slot_list_append F.type_list_append mt_append hv (pa1 t1 h1) hbase hfew hline h1 rfl) hs, fun σ ρ F H z Qd Xd Dn S hm hq hx => ?_⟩
  unfold sApp at hm
  cases e0 : ρ[i]? with
  | none => rw [e0] at hm; exact hm.elim
  | some s =>
    rw [e0] at hm
    obtain ⟨v, e1, r⟩ := st_get S e0
    cases s with
    | no => exact hm.elim
    | fr d => exact hm.elim
    | own ds0 =>
      cases v with
      | none => exact r.elim
      | some v =>
        obtain ⟨l, xs, rfl, ha0, hf, h0, np, rr, nh⟩ := r
        refine ⟨_, e1, .inl ⟨rfl, xs, .inl (.inl ha0)⟩, ?_⟩
        refine t2 σ ρ F H z _ Xd (fun y H1 => rAppend (.ref l) [y] H1 fun _ H2 => Dn.nx σ H2) S hm (fun d ρ1 z1 v F1 H1 q1 S1 ff1 k1 o1 r1 => ?_) (fun e ρ' z' cls dd F' H' q S' ff r => hx e ρ' z' cls dd σ F' H' q S' ff r)
        cases e2 : ρ1[i]? with
        | none => rw [e2] at q1; exact q1.elim
        | some s =>
          rw [e2] at q1
          cases s with
          | no => exact q1.elim
          | fr d => exact q1.elim
          | own ds =>
            obtain ⟨l', ys, el, hl, _, _, _, r2, _⟩ := S1.env i _ _ e1 e2
            cases el
            refine ⟨l, ys, v, rfl, rfl, hl, by rw [RpL.length r2, sizeLine_eq]; exact q1.1, ?_⟩
            exact hq .nx _ z1 F1 _ q1.2 ff1 σ (S1.mut e2 e1 (RpL.app1 r2 r1))
end
end DL

namespace DL
open PySem PySem.Spec PyProof.Rows L2

/-! ## x.insert(i, y) -/
def insD (ds : List D) (k : Nat) (y : D) : List D := ds.take k ++ [y] ++ ds.drop k
def sIns (i : Nat) (ms : E (List D)) : E Fl := fun ρ Q X z => match ρ[i]? with
  | some (.own _) => ms ρ (fun as ρ' z' => match as, ρ'[i]? with
    | [.int k, y], some (.own ds) => (0 ≤ k ∧ k < 2 ^ 63 ∧ ds.length < 16777216) ∧ Q .nx (ρ'.set i (.own (insD ds k.toNat y))) z'
    | _, _ => False) X z
  | _ => False
section
variable {X : Cx} {C : CC} {W : WX} {a b : Expr} {ms : E (List D)} {x : Str} {p p1 p2 p3 : Pos}
theorem xs_ins (i : Nat) (hv : PE X (.Name x p) (tVar i)) (ha : XA X C W [a, b] ms)
    (hbase : attributeBase (.Name x p) "insert" X.env (eval (.Name x p) X.env) = eval (.Name x p) X.env := by rfl)
    (hfew : ((backTo p2 (starEach (a :: [b]) X.env)).all (fun x => !x.1) && (backToKw p2 (keywordEach [] X.env)).all (fun x => x.1.isSome)
      && decide ((a :: ([b] : List Expr)).length + ([] : List Keyword).length + (if ([] : List Keyword).isEmpty then 0 else 1) < 30)) = true := by rfl)
    (hline : (p1.endLine == p2.line) = true := by rfl) (h1 : starEach (a :: [b]) X.env = (false, eval a X.env) :: starEach [b] X.env := by rfl) (hpl : (backTo p2 (starEach [b] X.env)).any (·.1) = false := by rfl) (hs : swapsWith (.Call (.Attribute (.Name x p) "insert" p1) [a, b] [] p2) none p3.line X.env = pure false := by rfl) :
    XS X C W (.Expr (.Call (.Attribute (.Name x p) "insert" p1) [a, b] [] p2) p3) (sIns i ms) := by
  obtain ⟨t, t1, t2⟩ := ha.ex
  refine ⟨_, ps_expr (pe_bm PySem.F.plainAttrs_list PySem.F.slot_list_insert PySem.F.type_list_insert mt_insert hv t1 hbase hfew hline h1 hpl) hs, fun σ ρ F H z Qd Xd Dn S hm hq hx => ?_⟩
  unfold sIns at hm
  cases e0 : ρ[i]? with
  | none => rw [e0] at hm; exact hm.elim
  | some s =>
    rw [e0] at hm
    obtain ⟨v, e1, r⟩ := st_get S e0
    cases s with
    | no => exact hm.elim
    | fr d => exact hm.elim
    | own ds0 =>
      cases v with
      | none => exact r.elim
      | some v =>
        obtain ⟨l, xs, rfl, ha0, hf, h0, np, rr, nh⟩ := r
        refine ⟨_, e1, .inl ⟨rfl, xs, .inl (.inl ha0)⟩, ?_⟩
        refine t2 σ ρ F H z _ Xd _ S hm (fun as ρ1 z1 vs F1 H1 q1 S1 ff1 k1 o1 r1 => ?_) (fun e ρ' z' cls dd F' H' q S' ff r => hx e ρ' z' cls dd σ F' H' q S' ff r)
        match as, q1, r1 with
        | [.int k, y], q1, r1 =>
          cases e2 : ρ1[i]? with
          | none => rw [e2] at q1; exact q1.elim
          | some s =>
            rw [e2] at q1
            cases s with
            | no => exact q1.elim
            | fr d => exact q1.elim
            | own ds =>
              obtain ⟨l', ys, el, hl, _, _, _, r2, _⟩ := S1.env i _ _ e1 e2
              cases el
              cases r1 with
              | cons ra rb =>
                cases ra
                cases rb with
                | cons ry rn =>
                  cases rn
                  refine ⟨l, ys, k, _, rfl, rfl, hl, by rw [RpL.length r2, sizeLine_eq]; exact q1.1.2.2, q1.1.1, q1.1.2.1, ?_⟩
                  exact hq .nx _ z1 F1 _ q1.2 ff1 σ (S1.mut e2 e1 (RpL.append (RpL.append (RpL.take _ r2) (.cons ry .nil)) (RpL.drop _ r2)))
end
@[simp] theorem sIns_a (i : Nat) (ms : E (List D)) (t : Sl) (ρ : Rho) (Qf : Fl → Rho → Zs → Prop) (X : Er → Rho → Zs → Prop) (z : Zs) : sIns i ms (t :: ρ) Qf X z = (match (t :: ρ)[i]? with
  | some (.own _) => ms (t :: ρ) (fun as ρ' z' => match as, ρ'[i]? with
    | [.int k, y], some (.own ds) => (0 ≤ k ∧ k < 2 ^ 63 ∧ ds.length < 16777216) ∧ Qf .nx (ρ'.set i (.own (insD ds k.toNat y))) z'
    | _, _ => False) X z
  | _ => False) := propext Iff.rfl
/-! ## xs[::-1] -/
def fRevL : D → E (List D)
  | .lst ds => ep ds.reverse
  | _ => eStuck
theorem RpL.revD {K : PySem.W.Frag} {mg : Str → Option Value} {pa : Option Addr} {F : Hp} : ∀ {ds : List D} {vs : List V}, RpL K mg pa F vs ds → RpL K mg pa F vs.reverse ds.reverse
  | [], _, h => by cases h; exact .nil
  | d :: ds, _, h => by
    cases h with
    | cons a b =>
      rw [List.reverse_cons, List.reverse_cons]
      exact RpL.append (RpL.revD b) (.cons a .nil)
section
variable {X : Cx} {C : CC} {W : WX} {e : Expr} {m : E D} {k : Nat} {p1 p2 p3 pos : Pos}
theorem o_revL : Op1 C W (fun x H Q => ∃ a xs, x = V.ref a ∧ SqL C.K H a xs ∧ ∀ p, H p = none → Q (.ref p) (upd H p (.lst xs.reverse))) fRevL (RO C) := by
  intro σ ρ F H z x dx Qd Xd Q S rx hm hq hx
  cases dx with
  | lst ds =>
    obtain ⟨a, xs, rfl, ha, r, np⟩ := RT.lst S.sub rx
    exact ⟨a, xs, rfl, .inl (.inl ha), fun p hn => S.newL hn (RpL.revD r) hm hq⟩
  | _ => exact False.elim hm
theorem xo_revL (hK : X.K = C.K) (he : XP X C W e m) : XO X C W (.Subscript e (.Slice none none (some (.UnaryOp .USub (.Constant (.int 1) k p1) p2)) p3) pos) (eb m fRevL) := by
  obtain ⟨t, a1, a2⟩ := he.ex
  refine ⟨_, pe_revL a1, ?_⟩
  rw [hK]
  exact den_un (r := fun x H Q => ∃ a xs, x = V.ref a ∧ SqL C.K H a xs ∧ ∀ p, H p = none → Q (.ref p) (upd H p (.lst xs.reverse))) back_O a2 o_revL
end
@[simp] theorem fRevL_1 (ds : List D) : fRevL (.lst ds) = ep ds.reverse := funext fun _ => rfl
end DL

namespace DL
open PySem PySem.Spec PyProof.Rows L2

/-! ## the head's facts with tables of text keys, and getters of properties -/
/-- where the getter of class p.1's property p.2 stands -/
def getAd (K : PySem.W.Frag) (p : Str × Option Str) : Addr := match PySem.W.recIn K (He.ma K (He.ga K p.1) (p.2.getD Str.empty)) "property" with
  | some (.ref g :: _) => g
  | _ => 0
def fnWA (K : PySem.W.Frag) (a : Addr) : He.FnW := match K.lookup a with
  | some o => (match o.data with
    | .func g => some (g.name, g.qualname, g.params, g.body, g.scope, g.globals, g.closure, g.builtins)
    | _ => none)
  | none => none
def okA (K : PySem.W.Frag) (d : He.DefD) (a : Addr) : Bool := PySem.W.keepIn K (.ref a) && match K.lookup a with
  | some o => (match o.data with
    | .func g => (PySem.W.codeIn K g.code d.qual && He.dflB K g.defaults (d.dvs K)) && He.kwdB K g.kwdefaults (d.kws K)
    | _ => false)
  | none => false
theorem getter_ok {K : PySem.W.Frag} {d : He.DefD} {a : Addr} (h1 : fnWA K a = d.val) (h2 : okA K d a = true) : ∃ fd, FunD K d.name d.qual d.params d.body d.scope (d.dvs K) (d.kws K) a fd := by
  have hs := He.ba h2
  have r2 := hs.2
  unfold fnWA at h1
  cases e : K.lookup a with
  | none => rw [e] at r2; exact Bool.noConfusion r2
  | some o =>
    rw [e] at h1 r2
    rcases o with ⟨o1, o2, o3, o4⟩
    cases o3 with
    | func g =>
      rcases g with ⟨a1, a2, a3, a4, a5, a6, a7, a8, a9, b1, b2, b3, b4, b5, b6⟩
      injection h1 with h1
      injection h1 with p1 h1
      injection h1 with p2 h1
      injection h1 with p3 h1
      injection h1 with p4 h1
      injection h1 with p5 h1
      injection h1 with p6 h1
      injection h1 with p7 p8
      subst p1; subst p2; subst p3; subst p4; subst p5; subst p6; subst p7; subst p8
      have r3 := He.ba r2
      have r4 := He.ba r3.1
      refine ⟨_, ⟨o1, o2, a8, a9, b1, b2, b3, b4, b5, o4, rfl, e, r4.1, He.dflB_ok r4.2, He.kwdB_ok r3.2⟩, hs.1⟩
    | _ => exact Bool.noConfusion r2
def propB (K : PySem.W.Frag) (x f : Str) : Bool :=
  (He.eqO (PySem.W.findIn K (.ref (He.ga K x)) f) (some (some (.ref (He.ma K (He.ga K x) f)))) && He.eqO (PySem.W.specialIn K (.ref (He.ma K (He.ga K x) f)) "__get__") (some (some (.builtin "property.__get__")))) &&
  (decide (PySem.W.takesIn K (.ref (He.ma K (He.ga K x) f)) = some true) && match PySem.W.recIn K (He.ma K (He.ga K x) f) "property" with
    | some (.ref _ :: _) => true
    | _ => false)
theorem propB_ok {K : PySem.W.Frag} {x f : Str} (h : propB K x f = true) : PropOf K (He.ga K x) f (He.ma K (He.ga K x) f) (getAd K (x, some f)) := by
  have h1 := He.ba h
  have h2 := He.ba h1.1
  have h3 := He.ba h1.2
  refine ⟨He.eqO_ok h2.1, He.eqO_ok h2.2, of_decide_eq_true h3.1, ?_⟩
  have h4 := h3.2
  unfold getAd
  show ∃ rest, PySem.W.recIn K (He.ma K (He.ga K x) f) "property" = _
  dsimp only [Option.getD]
  split at h4
  · rename_i g r e
    rw [e]
    exact ⟨r, rfl⟩
  · exact Bool.noConfusion h4
abbrev AlF : Type := (He.AlT × List He.FnW) × Bool
def obsK (fa : List He.Fa) (fn : List He.DefD) (ts : List He.Tab) (gs : List He.DefD) (ex : PySem.W.Frag → Bool) (K : PySem.W.Frag) : AlF :=
  ((He.obsT fa fn ts K, gs.map fun d => fnWA K (getAd K d.at_)), ex K && gs.all fun d => okA K d (getAd K d.at_))
def obsF (n : Nat) (fa : List He.Fa) (fn : List He.DefD) (ts : List He.Tab) (gs : List He.DefD) (ex : PySem.W.Frag → Bool) (g : Addr → Option Obj) : AlF := obsK fa fn ts gs ex (He.frG g (PySem.cStatics :: He.asD g n))
def SaysF (fa : List He.Fa) (fn : List He.DefD) (ts : List He.Tab) (gs : List He.DefD) (ex : PySem.W.Frag → Bool) (w : World) (K : PySem.W.Frag) : Prop :=
  He.SaysD fa fn K ∧ ex K = true ∧ He.SaysT fa fn ts w K ∧ (gs.map fun d => fnWA K (getAd K d.at_)) = gs.map He.DefD.val ∧ (gs.all fun d => okA K d (getAd K d.at_)) = true
theorem says_of {fa : List He.Fa} {fn : List He.DefD} {ts : List He.Tab} {gs : List He.DefD} {ex : PySem.W.Frag → Bool} {w : World} {K : PySem.W.Frag} (e : obsK fa fn ts gs ex K = ((He.valT fn ts w, gs.map He.DefD.val), true)) : SaysF fa fn ts gs ex w K := by
  have e1 := congrArg (fun z : AlF => z.1.1) e
  have e2 := congrArg (fun z : AlF => z.1.2) e
  have e3 := He.ba (congrArg (fun z : AlF => z.2) e)
  exact ⟨He.SaysT.d e1, e3.1, e1, e2, e3.2⟩
def hookF (n : Nat) (fa : List He.Fa) (fn : List He.DefD) (ts : List He.Tab) (gs : List He.DefD) (ex : PySem.W.Frag → Bool) : PySem.W.Hook where
  α := AlF
  obs := fun s => obsF n fa fn ts gs ex s.heap.get?
  val := fun w => ((He.valT fn ts w, gs.map He.DefD.val), true)
  says := fun w h => ∃ K : PySem.W.Frag, K.In h ∧ SaysF fa fn ts gs ex w K
  of := fun _ _ e => ⟨_, He.frG_in, says_of e⟩
  keeps := fun _ _ _ ⟨K, hK, c⟩ k => ⟨K, PySem.W.Frag.In.keeps hK k, c⟩
theorem obsF_eq {n : Nat} {fa : List He.Fa} {fn : List He.DefD} {ts : List He.Tab} {gs : List He.DefD} {ex : PySem.W.Frag → Bool} {g : Addr → Option Obj} {s : Shared} (h : ∀ a, g a = s.heap.get? a) : obsF n fa fn ts gs ex g = (hookF n fa fn ts gs ex).obs s := by
  have e : g = s.heap.get? := funext h
  rw [e] <;> rfl
theorem SaysF.get {fa : List He.Fa} {fn : List He.DefD} {ts : List He.Tab} {gs : List He.DefD} {ex : PySem.W.Frag → Bool} {w : World} {K : PySem.W.Frag} (c : SaysF fa fn ts gs ex w K) (i : Nat) {d : He.DefD} (h : gs[i]? = some d) :
    ∃ fd, FunD K d.name d.qual d.params d.body d.scope (d.dvs K) (d.kws K) (getAd K d.at_) fd := by
  obtain ⟨_, _, _, e, a⟩ := c
  have e2 : (gs.map fun d => fnWA K (getAd K d.at_))[i]? = (gs.map He.DefD.val)[i]? := by rw [e]
  rw [List.getElem?_map, List.getElem?_map, h] at e2
  exact getter_ok (Option.some.inj e2) (List.all_eq_true.mp a d (List.mem_of_getElem? h))
end DL

namespace DL
open PySem PySem.Spec PyProof.Rows L2

/-! ## constants of the module -/
def relF : Value → D → Bool
  | .int j _, .int i => decide (j = i)
  | .str y _, .str x => decide (y = x)
  | .bool b, .bl c => decide (b = c)
  | .none, .non => true
  | _, _ => false
theorem relF_ok {u : Value} {d : D} (h : relF u d = true) : ∃ v, RelV v u ∧ ∀ K mg pa F, Rp K mg pa F v d := by
  cases u <;> cases d <;> first | exact Bool.noConfusion h | skip
  · exact ⟨.non, rfl, fun _ _ _ _ => .non⟩
  · cases of_decide_eq_true h; exact ⟨.bl _, rfl, fun _ _ _ _ => .bl _⟩
  · cases of_decide_eq_true h; exact ⟨.int _, ⟨_, rfl⟩, fun _ _ _ _ => .int _⟩
  · cases of_decide_eq_true h; exact ⟨.str _, ⟨_, rfl⟩, fun _ _ _ _ => .str _⟩
def relFs : List Value → List D → Bool
  | [], [] => true
  | u :: us, d :: ds => relF u d && relFs us ds
  | _, _ => false
theorem relFs_ok : ∀ {us : List Value} {ds : List D}, relFs us ds = true → ∃ vs, Vals vs us ∧ ∀ K mg pa F, RpL K mg pa F vs ds
  | [], [], _ => ⟨[], .nil, fun _ _ _ _ => .nil⟩
  | [], _ :: _, h => Bool.noConfusion h
  | _ :: _, [], h => Bool.noConfusion h
  | u :: us, d :: ds, h => by
    have h1 := He.ba (show (relF u d && relFs us ds) = true from h)
    obtain ⟨v, r, q⟩ := relF_ok h1.1
    obtain ⟨vs, rs, qs⟩ := relFs_ok h1.2
    exact ⟨v :: vs, .cons r rs, fun K mg pa F => .cons (q K mg pa F) (qs K mg pa F)⟩
def relT (K : PySem.W.Frag) : Value → D → Bool
  | .ref a, .tup ds => (match K.lookup a with
    | some ⟨.type c, _, .seq its _, _⟩ => (decide (c = "tuple") && decide (its.size ≤ sizeLine)) && relFs its.toList ds
    | _ => false)
  | u, d => relF u d
theorem relT_ok {K : PySem.W.Frag} {u : Value} {d : D} (h : relT K u d = true) : ∃ v, RelV v u ∧ ∀ mg pa F, Rp K mg pa F v d := by
  unfold relT at h
  split at h
  · rename_i a ds
    split at h
    · rename_i c od its n sl e
      have h1 := He.ba h
      have h2 := He.ba h1.1
      obtain ⟨vs, rs, qs⟩ := relFs_ok h1.2
      exact ⟨.ref a, rfl, fun mg pa F => .tup (.inr ⟨_, its, n, e, congrArg Value.type (of_decide_eq_true h2.1), rfl, of_decide_eq_true h2.2, rs⟩) (qs K mg pa F)⟩
    · exact Bool.noConfusion h
  · obtain ⟨v, r, q⟩ := relF_ok h
    exact ⟨v, r, fun mg pa F => q K mg pa F⟩
/-- .. of such tuples, too -/
def relTs (K : PySem.W.Frag) : List Value → List D → Bool
  | [], [] => true
  | u :: us, d :: ds => relT K u d && relTs K us ds
  | _, _ => false
theorem relTs_ok {K : PySem.W.Frag} : ∀ {us : List Value} {ds : List D}, relTs K us ds = true → ∃ vs, Vals vs us ∧ ∀ mg pa F, RpL K mg pa F vs ds
  | [], [], _ => ⟨[], .nil, fun _ _ _ => .nil⟩
  | [], _ :: _, h => Bool.noConfusion h
  | _ :: _, [], h => Bool.noConfusion h
  | u :: us, d :: ds, h => by
    have h1 := He.ba (show (relT K u d && relTs K us ds) = true from h)
    obtain ⟨v, r, q⟩ := relT_ok h1.1
    obtain ⟨vs, rs, qs⟩ := relTs_ok h1.2
    exact ⟨v :: vs, .cons r rs, fun mg pa F => .cons (q mg pa F) (qs mg pa F)⟩
def relT2 (K : PySem.W.Frag) : Value → D → Bool
  | .ref a, .tup ds => (match K.lookup a with
    | some ⟨.type c, _, .seq its _, _⟩ => (decide (c = "tuple") && decide (its.size ≤ sizeLine)) && relTs K its.toList ds
    | _ => false)
  | u, d => relF u d
theorem relT2_ok {K : PySem.W.Frag} {u : Value} {d : D} (h : relT2 K u d = true) : ∃ v, RelV v u ∧ ∀ mg pa F, Rp K mg pa F v d := by
  unfold relT2 at h
  split at h
  · rename_i a ds
    split at h
    · rename_i c od its n sl e
      have h1 := He.ba h
      have h2 := He.ba h1.1
      obtain ⟨vs, rs, qs⟩ := relTs_ok h1.2
      exact ⟨.ref a, rfl, fun mg pa F => .tup (.inr ⟨_, its, n, e, congrArg Value.type (of_decide_eq_true h2.1), rfl, of_decide_eq_true h2.2, rs⟩) (qs mg pa F)⟩
    · exact Bool.noConfusion h
  · obtain ⟨v, r, q⟩ := relF_ok h
    exact ⟨v, r, fun mg pa F => q K mg pa F⟩
def gtupB (K : PySem.W.Frag) (x : Str) (d : D) : Bool := relT2 K (.ref (He.ga K x)) d
def ktabB (K : PySem.W.Frag) (a : Addr) (tb : List (Str × D)) : Bool := (tb.all fun q => match PySem.W.nsIn K a q.1 with
  | some (some u) => relT K u q.2
  | _ => false) && match K.lookup a with
  | some ⟨_, _, .dict es _, _⟩ => es.toList.all fun e => match e.key with
    | .str x _ => (tb.lookup x).isSome
    | _ => false
  | _ => false
theorem lookup_memD {z : Str} : ∀ {tb : List (Str × D)} {d : D}, tb.lookup z = some d → (z, d) ∈ tb
  | [], _, h => by cases h
  | (k, x) :: r, d, h => by
    rw [List.lookup_cons] at h
    split at h
    · rename_i e
      cases h
      have := beq_iff_eq.mp e
      subst this
      exact List.mem_cons_self
    · exact List.mem_cons_of_mem _ (lookup_memD h)
theorem ktab_some {K : PySem.W.Frag} {a : Addr} {tb : List (Str × D)} (h : ktabB K a tb = true) {z : Str} {d : D} (e : tb.lookup z = some d) : ∃ u v, PySem.W.nsIn K a z = some (some u) ∧ RelV v u ∧ ∀ mg pa F, Rp K mg pa F v d := by
  have h1 := List.all_eq_true.mp (He.ba h).1 _ (lookup_memD e)
  dsimp only at h1
  split at h1
  · rename_i u q
    obtain ⟨v, r, s⟩ := relT_ok h1
    exact ⟨u, v, q, r, s⟩
  · exact Bool.noConfusion h1
theorem ktab_none {K : PySem.W.Frag} {a : Addr} {tb : List (Str × D)} (h : ktabB K a tb = true) {z : Str} (e : tb.lookup z = none) : PySem.W.nsIn K a z = some none := by
  have h1 := (He.ba h).2
  split at h1
  · rename_i o1 o2 es n sl q
    unfold PySem.W.nsIn
    rw [q]
    have key : ∀ y ∈ es.toList, ∃ x t, y.key = .str x t ∧ x ≠ z := fun y hy => by
      have h2 := List.all_eq_true.mp h1 y hy
      split at h2
      · rename_i x t w
        refine ⟨x, t, w, fun g => ?_⟩
        rw [g, e] at h2
        exact Bool.noConfusion h2
      · exact Bool.noConfusion h2
    have n1 : es.toList.find? (fun x => x.key.isStr z) = none := by
      rw [List.find?_eq_none]
      intro y hy
      obtain ⟨x, t, w, ne⟩ := key y hy
      rw [w]
      show ¬ ((x == z) = true)
      intro g
      exact ne (beq_iff_eq.mp g)
    have n2 : (es.toList.any fun x => x.refKey) = false := by
      rw [List.any_eq_false]
      intro y hy
      obtain ⟨x, t, w, ne⟩ := key y hy
      unfold DictEntry.refKey
      rw [w]
      intro g
      cases g
    dsimp only
    rw [n1, n2]
    rfl
  · exact Bool.noConfusion h1
def dKey (tb : List (Str × D)) : P1
  | .str z, Q => ∃ d, tb.lookup z = some d ∧ Q d
  | _, _ => False
def dInK (tb : List (Str × D)) : P1
  | .str z, Q => Q (.bl (tb.lookup z).isSome)
  | _, _ => False
def dNotInK (tb : List (Str × D)) : P1
  | .str z, Q => Q (.bl (!(tb.lookup z).isSome))
  | _, _ => False
section
variable {X : Cx} {C : CC} {W : WX} {e a b : Expr} {m ma mb : E D} {pos p p1 p2 p3 : Pos} {k : Nat} {x : Str} {tb : List (Str × D)} {A : Addr} {pl pr : Pos}
theorem xe_gint {i : Int} (hg : Gl X x) (h : ∃ t, X.mg x = some (.int i t)) (hdb : (x == ("__debug__" : Str)) = false := by decide) : XE X C W (.Name x p) (ep (.int i)) := by
  obtain ⟨t, e⟩ := h
  exact xe_c (v := .int i) (pe_glob hg e ⟨t, rfl⟩ hdb) fun _ => .int i
theorem xe_gstr {i : Str} (hg : Gl X x) (h : ∃ t, X.mg x = some (.str i t)) (hdb : (x == ("__debug__" : Str)) = false := by decide) : XE X C W (.Name x p) (ep (.str i)) := by
  obtain ⟨t, e⟩ := h
  exact xe_c (v := .str i) (pe_glob hg e ⟨t, rfl⟩ hdb) fun _ => .str i
theorem xe_gtup {d : D} {y : Str} (hK : X.K = C.K) (hg : Gl X x) (h : X.mg x = some (.ref (He.ga X.K y))) (hd : gtupB X.K y d = true) (hdb : (x == ("__debug__" : Str)) = false := by decide) : XE X C W (.Name x p) (ep d) := by
  obtain ⟨v, r, q⟩ := relT2_ok hd
  refine xe_c (v := v) (pe_glob hg h r hdb) fun F => ?_
  have := q C.mg C.pa F
  rw [hK] at this
  exact this
theorem xe_tab (hK : X.K = C.K) (kd : ∃ es n, KDict X.K X.w A es n) (ht : ktabB X.K A tb = true) (hg : Gl X x) (hm : X.mg x = some (.ref A)) (hb : XP X C W b mb) (hs : PlainIx b) (hdb : (x == ("__debug__" : Str)) = false := by decide) :
    XE X C W (.Subscript (.Name x p) b pos) (eb mb fun y => eP (dKey tb y)) := by
  obtain ⟨t, h1, h2⟩ := hb.ex
  obtain ⟨es, n, D⟩ := kd
  refine ⟨_, pe_ix ix_kdict (pe_glob (v := .ref A) hg hm rfl hdb) h1 hs, ?_⟩
  refine den_un (r := fun y H Q => rIxD X.K X.w (.ref A) y H Q) back_R h2 (op1_flat fun F H y dy Q Qd s ry hp hq => ?_)
  unfold dKey at hp
  split at hp
  · obtain ⟨d, e1, q⟩ := hp
    obtain ⟨u, v, g1, g2, g3⟩ := ktab_some ht e1
    refine ⟨A, _, v, rfl, ry.str, ⟨es, n, u, D.at_, D.lit, g1, g2⟩, hq _ _ q ?_⟩
    have := g3 C.mg C.pa F
    rw [hK] at this
    exact this
  · exact False.elim hp
theorem o_inK (kd : ∃ es n, KDict X.K X.w A es n) (ht : ktabB X.K A tb = true) : ∃ es n, KDict X.K X.w A es n ∧ Op1 C W (fun y H Q => ∃ (z : Str) (r : Option Value), y = V.str z ∧ V.ref A = V.ref A ∧ PySem.W.nsIn X.K A z = some r ∧ Q (V.bl r.isSome) H) (fun y => eP (dInK tb y)) (kR C) := by
  obtain ⟨es, n, D⟩ := kd
  refine ⟨es, n, D, op1_flat fun F H y dy Q Qd s ry hp hq => ?_⟩
  unfold dInK at hp
  split at hp
  · rename_i z
    cases e1 : tb.lookup z with
    | none =>
      rw [e1] at hp
      exact ⟨z, none, ry.str, rfl, ktab_none ht e1, hq _ _ hp (.bl _)⟩
    | some d =>
      rw [e1] at hp
      obtain ⟨u, v, g1, _, _⟩ := ktab_some ht e1
      exact ⟨z, some u, ry.str, rfl, g1, hq _ _ hp (.bl _)⟩
  · exact False.elim hp
theorem o_notInK (kd : ∃ es n, KDict X.K X.w A es n) (ht : ktabB X.K A tb = true) : ∃ es n, KDict X.K X.w A es n ∧ Op1 C W (fun y H Q => ∃ (z : Str) (r : Option Value), y = V.str z ∧ V.ref A = V.ref A ∧ PySem.W.nsIn X.K A z = some r ∧ Q (V.bl (!r.isSome)) H) (fun y => eP (dNotInK tb y)) (kR C) := by
  obtain ⟨es, n, D⟩ := kd
  refine ⟨es, n, D, op1_flat fun F H y dy Q Qd s ry hp hq => ?_⟩
  unfold dNotInK at hp
  split at hp
  · rename_i z
    cases e1 : tb.lookup z with
    | none =>
      rw [e1] at hp
      exact ⟨z, none, ry.str, rfl, ktab_none ht e1, hq _ _ hp (.bl _)⟩
    | some d =>
      rw [e1] at hp
      obtain ⟨u, v, g1, _, _⟩ := ktab_some ht e1
      exact ⟨z, some u, ry.str, rfl, g1, hq _ _ hp (.bl _)⟩
  · exact False.elim hp
theorem xe_inK (kd : ∃ es n, KDict X.K X.w A es n) (ht : ktabB X.K A tb = true) (hg : Gl X x) (hm : X.mg x = some (.ref A)) (hb : XP X C W b mb) (hdb : (x == ("__debug__" : Str)) = false := by decide)
    (hmk : behindInMarks .In (.Name x p) = false := by rfl) : XE X C W (.Compare b [.In] [.Name x p] pos) (eb mb fun y => eP (dInK tb y)) := by
  obtain ⟨t, h1, h2⟩ := hb.ex
  obtain ⟨es, n, D, o⟩ := o_inK (C := C) (W := W) kd ht
  exact ⟨_, pe_cmpR (op_in_kd D) h1 (pe_glob (v := .ref A) hg hm rfl hdb) hmk, den_un (r := fun y H Q => ∃ (z : Str) (r : Option Value), y = V.str z ∧ V.ref A = V.ref A ∧ PySem.W.nsIn X.K A z = some r ∧ Q (V.bl r.isSome) H) back_R h2 o⟩
theorem xe_notInK (kd : ∃ es n, KDict X.K X.w A es n) (ht : ktabB X.K A tb = true) (hg : Gl X x) (hm : X.mg x = some (.ref A)) (hb : XP X C W b mb) (hdb : (x == ("__debug__" : Str)) = false := by decide)
    (hmk : behindInMarks .NotIn (.Name x p) = false := by rfl) : XE X C W (.Compare b [.NotIn] [.Name x p] pos) (eb mb fun y => eP (dNotInK tb y)) := by
  obtain ⟨t, h1, h2⟩ := hb.ex
  obtain ⟨es, n, D, o⟩ := o_notInK (C := C) (W := W) kd ht
  exact ⟨_, pe_cmpR (op_notIn_kd D) h1 (pe_glob (v := .ref A) hg hm rfl hdb) hmk, den_un (r := fun y H Q => ∃ (z : Str) (r : Option Value), y = V.str z ∧ V.ref A = V.ref A ∧ PySem.W.nsIn X.K A z = some r ∧ Q (V.bl (!r.isSome)) H) back_R h2 o⟩
theorem xt_inK (kd : ∃ es n, KDict X.K X.w A es n) (ht : ktabB X.K A tb = true) (hg : Gl X x) (hm : X.mg x = some (.ref A)) (hb : XP X C W b mb) (hdb : (x == ("__debug__" : Str)) = false := by decide)
    (hmk : behindInMarks .In (.Name x p) = false := by rfl) : XT X C W (.Compare b [.In] [.Name x p] pos) (eT (eb mb fun y => eP (dInK tb y))) := by
  obtain ⟨t, h1, h2⟩ := hb.ex
  obtain ⟨es, n, D, o⟩ := o_inK (C := C) (W := W) kd ht
  exact ⟨_, pt_cmpR (op_in_kd D) h1 (pe_glob (v := .ref A) hg hm rfl hdb) hmk, den_test (den_un (r := fun y H Q => ∃ (z : Str) (r : Option Value), y = V.str z ∧ V.ref A = V.ref A ∧ PySem.W.nsIn X.K A z = some r ∧ Q (V.bl r.isSome) H) back_R h2 o)⟩
theorem xt_notInK (kd : ∃ es n, KDict X.K X.w A es n) (ht : ktabB X.K A tb = true) (hg : Gl X x) (hm : X.mg x = some (.ref A)) (hb : XP X C W b mb) (hdb : (x == ("__debug__" : Str)) = false := by decide)
    (hmk : behindInMarks .NotIn (.Name x p) = false := by rfl) : XT X C W (.Compare b [.NotIn] [.Name x p] pos) (eT (eb mb fun y => eP (dNotInK tb y))) := by
  obtain ⟨t, h1, h2⟩ := hb.ex
  obtain ⟨es, n, D, o⟩ := o_notInK (C := C) (W := W) kd ht
  exact ⟨_, pt_cmpR (op_notIn_kd D) h1 (pe_glob (v := .ref A) hg hm rfl hdb) hmk, den_test (den_un (r := fun y H Q => ∃ (z : Str) (r : Option Value), y = V.str z ∧ V.ref A = V.ref A ∧ PySem.W.nsIn X.K A z = some r ∧ Q (V.bl (!r.isSome)) H) back_R h2 o)⟩

/-! ## texts -/
def strsOf : List D → Option (List Str)
  | [] => some []
  | .str x :: r => (strsOf r).map (x :: ·)
  | _ :: _ => none
theorem RpL.strs {K : PySem.W.Frag} {mg : Str → Option Value} {pa : Option Addr} {F : Hp} : ∀ {ds : List D} {vs : List V} {ys : List Str}, RpL K mg pa F vs ds → strsOf ds = some ys → vs = ys.map V.str
  | [], _, _, h, e => by cases h; cases e; rfl
  | d :: ds, _, ys, h, e => by
    cases h with
    | cons r rr =>
      cases d with
      | str z =>
        unfold strsOf at e
        cases q : strsOf ds with
        | none => rw [q] at e; cases e
        | some l =>
          rw [q] at e
          cases e
          cases r
          rw [RpL.strs rr q]
          rfl
      | _ => cases e
theorem strsOf_map : ∀ ys : List Str, strsOf (ys.map D.str) = some ys
  | [] => rfl
  | y :: ys => by
    show (strsOf (ys.map D.str)).map (y :: ·) = _
    rw [strsOf_map ys]
    rfl
def dJoin (i : Str) : P1
  | .lst ds, Q => ∃ ys, strsOf ds = some ys ∧ (ys.map (·.length)).sum + ys.length * i.length ≤ 16777216 ∧ Q (.str (Txt.join i ys))
  | .tup ds, Q => ∃ ys, strsOf ds = some ys ∧ (ys.map (·.length)).sum + ys.length * i.length ≤ 16777216 ∧ Q (.str (Txt.join i ys))
  | _, _ => False
theorem xe_join {i : Str} {j} (hK : X.K = C.K) (hb : XP X C W b mb) (hs : starEach [b] X.env = [(false, eval b X.env)] := by rfl)
    (hbase : attributeBase (.Constant (.str i) j p2) "join" X.env (eval (.Constant (.str i) j p2) X.env) = eval (.Constant (.str i) j p2) X.env := by rfl) (hline : (p1.endLine == pos.line) = true := by rfl) :
    XE X C W (.Call (.Attribute (.Constant (.str i) j p2) "join" p1) [b] [] pos) (eb mb fun y => eP (dJoin i y)) := by
  obtain ⟨u, g1, g2⟩ := hb.ex
  refine ⟨_, pe_join pe_str g1 hs hbase hline, fun σ ρ F H z Qd Xd Q S hm hq hx => ?_⟩
  refine ⟨⟨i, rfl⟩, g2 σ ρ F H z _ Xd _ S hm (fun dy ρ2 z2 y F2 H2 q2 S2 ff2 k2 o2 ry => ?_) hx⟩
  change dJoin i dy _ at q2
  rw [hK]
  cases dy with
  | lst ds =>
    obtain ⟨ys, e1, e2, q⟩ := q2
    obtain ⟨q0, xs, rfl, e3, rl, _⟩ := RT.lst S2.sub ry.now
    have := RpL.strs rl e1
    subst this
    exact ⟨i, q0, ys, rfl, rfl, .inl (.inl (.inl e3)), e2, hq _ _ _ _ _ _ q S2 ff2 k2 o2 (.str _)⟩
  | tup ds =>
    obtain ⟨ys, e1, e2, q⟩ := q2
    obtain ⟨q0, xs, rfl, e3, rl⟩ := RT.tup S2.sub ry.now
    have := RpL.strs rl e1
    subst this
    exact ⟨i, q0, ys, rfl, rfl, .inr e3, e2, hq _ _ _ _ _ _ q S2 ff2 k2 o2 (.str _)⟩
  | _ => exact False.elim q2
/-- methods without arguments on texts -/
def dStrM (c : Nat) (f : Str → D) : P1
  | .str a, Q => a.length ≤ c ∧ Q (f a)
  | _, _ => False
theorem xe_strM {c : Nat} {f : Str → D} {g : Str → V} {nm : Str} {r : V → List V → Hp → VK → Prop} (ha : XP X C W a ma) (hp : ∀ {to}, PE X a to → PE X (.Call (.Attribute a nm p1) [] [] pos) (tM0 r to))
    (hr : ∀ s H Q, s.length ≤ c → Q (g s) H → r (.str s) [] H Q) (hg : ∀ F s, C.R F (g s) (f s)) : XE X C W (.Call (.Attribute a nm p1) [] [] pos) (eb ma fun y => eP (dStrM c f y)) := by
  obtain ⟨u, g1, g2⟩ := ha.ex
  refine ⟨_, hp g1, den_un (r := fun x H Q => (∃ a, x = V.str a) ∧ r x [] H Q) back_R g2 (op1_flat fun F H y dy Q Qd s ry hp hq => ?_)⟩
  unfold dStrM at hp
  split at hp
  · obtain rfl := ry.str
    exact ⟨⟨_, rfl⟩, hr _ _ _ hp.1 (hq _ _ hp.2 (hg _ _))⟩
  · exact False.elim hp
def dUpper : P1 := dStrM 5592405 fun a => .str (Txt.upper a)
theorem xe_upper (ha : XP X C W a ma) (hbase : attributeBase a "upper" X.env (eval a X.env) = eval a X.env := by rfl) (hline : (p1.endLine == pos.line) = true := by rfl) : XE X C W (.Call (.Attribute a "upper" p1) [] [] pos) (eb ma fun y => eP (dUpper y)) :=
  xe_strM (g := fun a => .str (Txt.upper a)) ha (fun h => pe_upper h hbase hline) (fun s H Q h q => ⟨s, rfl, rfl, h, q⟩) fun F s => .str _
/-- a text walked sign by sign -/
def sgn (c : Nat) : D := .str ⟨#[c]⟩
def fStrI : D → E (List D)
  | .str s => ep (s.cps.toList.map fun c => .str ⟨#[c]⟩)
  | _ => eStuck
theorem its_ok {K : PySem.W.Frag} {mg : Str → Option Value} {pa : Option Addr} {F : Hp} {s : Str} : IterOk K mg pa (Its s) (s.cps.toList.map fun c => D.str ⟨#[c]⟩) F := by
  constructor
  · intro C σ ρ F2 H z eK em ep S ff i hi
    rw [List.getElem?_eq_none_iff, List.length_map, Array.length_toList] at hi
    exact hi
  · intro C σ ρ F2 H z eK em ep S ff i d hi
    rw [List.getElem?_map, Option.map_eq_some_iff] at hi
    obtain ⟨c, e1, rfl⟩ := hi
    have e2 : s.cps[i]? = some c := by rw [← Array.getElem?_toList]; exact e1
    refine ⟨(Array.getElem?_eq_some_iff.mp e2).1, fun x H' y => ?_⟩
    obtain ⟨rfl, c2, e3, rfl⟩ := y
    rw [e2] at e3
    cases e3
    exact ⟨F2, Same.refl F2, S, Keep.refl, .str _⟩
theorem xi_str {tg l : Expr} (h : XE X C W l m) : XI X C W tg l (eb m fStrI) := by
  obtain ⟨t, h1, h2⟩ := h.ex
  refine ⟨_, pi_str h1, fun σ ρ F H z Qd Xd R S hm hq hx => h2 σ ρ F H z _ Xd _ S hm (fun d ρ1 z1 v F1 H1 q1 S1 ff1 k1 o1 r1 => ?_) hx⟩
  cases d with
  | str s =>
    cases r1
    exact ⟨s, rfl, hq _ _ _ _ _ _ q1 S1 ff1 k1 o1 its_ok⟩
  | _ => exact False.elim q1
end
end DL

namespace DL
open PySem PySem.Spec PyProof.Rows L2

/-! ## instances of an own class: fields, properties, methods, making -/
def lkp (f : Str) : List Str → List D → Option D
  | n :: ns, d :: ds => if n = f then some d else lkp f ns ds
  | _, _ => none
theorem lkp_rel {K : PySem.W.Frag} {mg : Str → Option Value} {pa : Option Addr} {F : Hp} {f : Str} : ∀ {ns : List Str} {ds : List D} {xs : List V} {d : D}, RpL K mg pa F xs ds → lkp f ns ds = some d → ∃ v, (ns.zip xs).lookup f = some v ∧ Rp K mg pa F v d
  | [], _, _, _, _, h => by cases h
  | _ :: _, [], _, _, _, h => by cases h
  | n :: ns, e :: ds, _, d, r, h => by
    cases r with
    | cons a b =>
      rename_i v vs
      unfold lkp at h
      rw [List.zip_cons_cons, List.lookup_cons]
      by_cases q : n = f
      · rw [if_pos q] at h
        cases h
        subst q
        rw [beq_self_eq_true]
        exact ⟨v, rfl, a⟩
      · rw [if_neg q] at h
        have : (f == n) = false := by
          cases w : f == n with
          | false => rfl
          | true => exact absurd (beq_iff_eq.mp w).symm q
        rw [this]
        exact lkp_rel b h
theorem lookup_notin {f : Str} : ∀ {ns : List Str} {xs : List V}, f ∉ ns → (ns.zip xs).lookup f = none
  | [], _, _ => rfl
  | _ :: _, [], _ => rfl
  | n :: ns, x :: xs, h => by
    rw [List.zip_cons_cons, List.lookup_cons]
    have : (f == n) = false := by
      cases w : f == n with
      | false => rfl
      | true => exact absurd (beq_iff_eq.mp w) fun q => h (by rw [q]; exact List.mem_cons_self)
    rw [this]
    exact lookup_notin fun q => h (List.mem_cons_of_mem _ q)
theorem Rp.insAt {C : CC} {F : Hp} {v : V} {c : Str} {ns : List Str} {ds : List D} {A : Addr} (hm : C.mg c = some (.ref A)) (h : C.R F v (.ins c ns ds)) : ∃ a dx xs, v = .ref a ∧ F a = some (.ins A dx (ns.zip xs)) ∧ ns.length = xs.length ∧ C.RL F xs ds := by
  cases h with
  | ins g q l r =>
    rw [hm] at g
    cases g
    exact ⟨_, _, _, rfl, q, l, r⟩
theorem RT.ins {C : CC} {F H : Hp} {v : V} {c : Str} {ns : List Str} {ds : List D} (h : RT C F H v (.ins c ns ds)) : C.R F v (.ins c ns ds) := by
  exact h.fro fun _ z => z
section
variable {X : Cx} {C : CC} {W : WX} {e a b : Expr} {es : List Expr} {kws : List Keyword} {m ma mb : E D} {pos p p1 p2 p3 : Pos} {k j n : Nat} {x c f : Str} {A : Addr}
/-- e.f, a field -/
def dFld (c f : Str) : P1
  | .ins c' ns ds, Q => c' = c ∧ ∃ d, lkp f ns ds = some d ∧ Q d
  | _, _ => False
theorem xe_fld (kx : Kx X C W k) (hm : X.mg c = some (.ref A)) (hc : Cls X.K A) (hn : NoAttr X.K A f) (ha : XP X C W a ma) (hb : attributeBase a f X.env (eval a X.env) = eval a X.env := by rfl) : XE X C W (.Attribute a f pos) (eb ma fun d => eP (dFld c f d)) := by
  obtain ⟨t, h1, h2⟩ := ha.ex
  refine ⟨_, pe_fld h1 hb, den_un (r := fun y H Q => ∃ a C dx fs v, y = V.ref a ∧ H a = some (.ins C dx fs) ∧ Cls X.K C ∧ NoAttr X.K C f ∧ fs.lookup f = some v ∧ Q v H) back_R h2 (op1_flat fun F H y dy Q Qd s ry hp hq => ?_)⟩
  unfold dFld at hp
  split at hp
  · obtain ⟨rfl, d, e1, q⟩ := hp
    obtain ⟨a, dx, xs, rfl, e2, l, r⟩ := Rp.insAt (by rw [← kx.hmg]; exact hm) (RT.ins ry)
    obtain ⟨v, e3, rv⟩ := lkp_rel r e1
    exact ⟨a, A, dx, _, v, rfl, s _ _ e2 ngI, hc, hn, e3, hq _ _ q rv⟩
  · exact False.elim hp
/-- a def that is reached by an object -/
structure GM (X : Cx) (j : Nat) (g : Addr) (fd : FuncData) (ps : List Str) (sp : Sp) : Prop where
  fn : FnG X.prog X.w X.K X.mg X.base j g fd ps sp
  bg : BG X.K fd ps [] ps.length gL gL
def tPG (A : Addr) (sp : Sp) (W : WX) (ta : TE) : TE := fun σ H Q => ta σ H fun x H1 => ∃ a dx fs, x = .ref a ∧ H1 a = some (.ins A dx fs) ∧ sp [.ref a] H1 Q (fun _ _ _ => False)
theorem run_prop {pins : List (Addr × Obj)} {σ : L2.St} {H : Hp} {s : Shared} {Q : VK} {bb : Bool} {q g o dx : Addr} {fs : List (Str × V)} {fd : FuncData} {ps : List Str} {sp : Sp} (I : Inv X pins σ H s) (e0 : H o = some (.ins A dx fs)) (hc : Cls X.K A) (hp : PropOf X.K A f q g)
    (G : GM X j g fd ps sp) (kx : Kx X C W k) (hj : j + 1 ≤ k) (h1 : ps.length = 1) (h : sp [.ref o] H Q (fun _ _ _ => False)) : wpAny (model X.prog X.w) X.A (getAttr (.ref o) f bb) (EP X pins σ Q) X.xe s := by
  obtain ⟨_, O, _⟩ := ins_get I.hok e0
  obtain ⟨_, J, _⟩ := O.look
  obtain ⟨rest, hr⟩ := hp.rec_
  have I1 := I.tok (s.toks + 1)
  have hroom : Room (j + 1) X.A := kx.room.mono hj
  obtain ⟨us', b1, b2⟩ := G.bg.to { s with toks := s.toks + 1 } [.ref o] [] I1.kIn h1.symm rfl
  have isc : (PySem.W.clsIn X.K A).isSome = true := by
    obtain ⟨cd, e1, _⟩ := PySem.W.any_some hc.hd
    rw [e1]
    rfl
  have pg := PySem.W.plainGet_of (hc.get f)
  refine PySem.W.get_bind I.kIn J pg.1 (PySem.W.findObj_data isc hp.at_ hp.get hp.tak) pg.2 (wpAny_call (PySem.W.prop_get (s := { s with toks := s.toks + 1 }) I.kIn hr ?_))
  refine codeAny_mono (G.fn.run X.A.in1 X.stack _ H _ us' [.ref o] Q (fun _ _ _ => False) kx.gu hroom.in1 I1.env0.in1 b1 (b2 _ [] (.cons rfl .nil) .nil) h) fun r s' hq => ?_
  rcases r with er | fl
  · obtain ⟨_, _, _, _, _, _, _, _, _, _, _, _, hw⟩ := hq
    exact hw.elim
  · cases fl with
    | ret u =>
      obtain ⟨v, H', I3, rv, q3⟩ := I1.after hq
      show wpAny _ _ (handedOut u) _ _ _
      rw [PySem.W.handedOut_of (handed_of rv)]
      exact wpAny_pure ⟨v, H', I3, rv, q3⟩
    | _ => exact False.elim hq
theorem pe_propG {q g : Addr} {fd : FuncData} {ps : List Str} {sp : Sp} {ta : TE} (he : PE X a ta) (hc : Cls X.K A) (hp : PropOf X.K A f q g) (G : GM X j g fd ps sp) (kx : Kx X C W k) (hj : j + 1 ≤ k) (h1 : ps.length = 1)
    (hb : attributeBase a f X.env (eval a X.env) = eval a X.env := by rfl) : PE X (.Attribute a f pos) (tPG A sp W ta) := by
  refine ⟨fun pins s σ H Q I h => attr_of hb (thn (he.run pins s σ H _ I h) fun u s1 w => ?_)⟩
  obtain ⟨x, H1, I1, rx, o, dx, fs, ex, e0, q0⟩ := w
  subst ex
  obtain rfl : u = Value.ref o := rx
  exact run_prop I1 e0 hc hp G kx hj h1 q0
/-- what a property's getter does, which raises nothing -/
def fProp {α : Type} (c : Str) (m : List D → E0 α) (d : D) : E α := fun ρ Q _ z => (∃ ns ds, d = .ins c ns ds) ∧ m [d] (fun r z' => Q r ρ z') (fun _ _ => False) z
theorem xe_prop {q g : Addr} {fd : FuncData} {ps : List Str} {mg : List D → E0 D} (kx : Kx X C W k) (hm : X.mg c = some (.ref A)) (hc : Cls X.K A) (hp : PropOf X.K A f q g) (G : GM X j g fd ps (spF X.K X.mg 1 mg)) (hj : j + 1 ≤ k) (h1 : ps.length = 1) (ha : XE X C W a ma)
    (hb : attributeBase a f X.env (eval a X.env) = eval a X.env := by rfl) : XE X C W (.Attribute a f pos) (eb ma fun d => fProp c mg d) := by
  obtain ⟨t, t1, t2⟩ := ha.ex
  refine ⟨_, pe_propG t1 hc hp G kx hj h1 hb, Den.bind (u := fun x σ H Q => ∃ a dx fs, x = V.ref a ∧ H a = some (.ins A dx fs) ∧ spF X.K X.mg 1 mg [.ref a] H Q (fun _ _ _ => False)) back_R t2 ?_⟩
  intro H0 σ ρ F H z d x Qd Xd Q S ra hm' hq hx
  obtain ⟨⟨ns, ds, rfl⟩, hm'⟩ := hm'
  obtain ⟨o, dx, xs, rfl, e2, l, r⟩ := Rp.insAt (by rw [← kx.hmg]; exact hm) ra
  refine ⟨o, dx, _, rfl, S.sub _ _ e2 ngI, rfl, C.pa, F, z, [_], _, _, S.sub, ⟨S.pz, by rw [kx.hK, kx.hmg]; exact S.cs⟩, ?_, hm', fun d z' v F' H' q' a r => ?_, fun e z' cls dd F' H' q' a r => q'⟩
  · rw [kx.hK, kx.hmg]; exact .cons ra .nil
  · rw [kx.hK, kx.hmg] at r a
    exact hq d ρ z' v F' H' q' (S.call a) a.1 a.2.2.1 Ole.refl r
theorem xo_prop {q g : Addr} {fd : FuncData} {ps : List Str} {mg : List D → E0 (List D)} (kx : Kx X C W k) (hm : X.mg c = some (.ref A)) (hc : Cls X.K A) (hp : PropOf X.K A f q g) (G : GM X j g fd ps (spO X.K X.mg 1 mg)) (hj : j + 1 ≤ k) (h1 : ps.length = 1) (ha : XE X C W a ma)
    (hb : attributeBase a f X.env (eval a X.env) = eval a X.env := by rfl) : XO X C W (.Attribute a f pos) (eb ma fun d => fProp c mg d) := by
  obtain ⟨t, t1, t2⟩ := ha.ex
  refine ⟨_, pe_propG t1 hc hp G kx hj h1 hb, Den.bind (u := fun x σ H Q => ∃ a dx fs, x = V.ref a ∧ H a = some (.ins A dx fs) ∧ spO X.K X.mg 1 mg [.ref a] H Q (fun _ _ _ => False)) back_O t2 ?_⟩
  intro H0 σ ρ F H z d x Qd Xd Q S ra hm' hq hx
  obtain ⟨⟨ns, ds, rfl⟩, hm'⟩ := hm'
  obtain ⟨o, dx, xs, rfl, e2, l, r⟩ := Rp.insAt (by rw [← kx.hmg]; exact hm) ra
  refine ⟨o, dx, _, rfl, S.sub _ _ e2 ngI, rfl, C.pa, F, z, [_], _, _, S.sub, ⟨S.pz, by rw [kx.hK, kx.hmg]; exact S.cs⟩, ?_, hm', fun d z' a xs F' H' q' af e1 e2 e3 e4 r => ?_, fun e z' cls dd F' H' q' a r => q'⟩
  · rw [kx.hK, kx.hmg]; exact .cons ra .nil
  · rw [kx.hK, kx.hmg] at r af
    exact hq d ρ z' _ F' H' q' (S.call af) af.1 af.2.2.1 Ole.refl ⟨a, xs, rfl, e1, e2, e3, e4, r⟩

/-! ### making -/
/-- what an __init__ with its fields in order promises -/
def spN (K : PySem.W.Frag) (mg : Str → Option Value) (ns : List Str) (n : Nat) (m : List D → E0 (List D)) : Sp := fun vs H Q E => vs.length = n + 1 ∧ ∃ (a A dx : Addr) (args : List V) (pa : Option Addr) (F : Hp) (z : Zs) (ds : List D) (Qd : List D → Zs → Prop) (Xd : Er → Zs → Prop),
  vs = .ref a :: args ∧ H a = some (.ins A dx []) ∧ F a = none ∧ some a ≠ pa ∧ Cls K A ∧ (∀ f ∈ ns, NoAttr K A f) ∧ Sub F H ∧ PC K mg pa F H z ∧ RpL K mg pa F args ds ∧ m ds Qd Xd z ∧
  (∀ fs z' xs F' H1, Qd fs z' → Aft K mg pa F H F' H1 z' → F' a = none → ns.length = xs.length → RpL K mg pa F' xs fs → Q .non (upd H1 a (.ins A dx (ns.zip xs)))) ∧
  (∀ e z' cls dd F' H', Xd e z' → Aft K mg pa F H F' H' z' → ExR ⟨K, mg, pa, F, H, []⟩ F' H' e cls dd → E cls dd H')
def dN (n : Nat) (me : E D) : List D → E0 (List D) := fun ds Q X z => me (.no :: rho0 n ds) (fun d _ z => Q [d] z) (fun e _ z => X e z) z
theorem StOk.cons {C : CC} {σ : L2.St} {ρ : Rho} {F H : Hp} {z : Zs} {v : V} (S : StOk C σ ρ F H z) : StOk C (some v :: σ) (.no :: ρ) F H z := by
  refine ⟨S.sub, S.f0, S.h0, S.nw, by simp [S.len], fun i v s e1 e2 => ?_, fun i j x y a e1 e2 e3 e4 => ?_, S.pz, S.hd, S.cs⟩
  · cases i with
    | zero => cases e2; cases v <;> trivial
    | succ i => exact S.env i v s e1 e2
  · cases i with
    | zero => cases e1
    | succ i =>
      cases j with
      | zero => cases e2
      | succ j => exact congrArg Nat.succ (S.apart i j x y a e1 e2 e3 e4)
theorem fnN1_of {P : Program} {w : World} {K : PySem.W.Frag} {mg : Str → Option Value} {base : Heap} {k : Nat} {fa : Addr} {x qual g : Str} {params : Arguments} {body : List Stmt} {scope : Scope} {dvs : List V} {kws : List (Str × V)} {fd : FuncData} {N ps : List Str} {me : E D} {ex : Expr} {q1 q2 q3 : Pos}
    (F : FunD K x qual params body scope dvs kws fa fd) (S : FnScope ("self" :: N) ("self" :: ps) scope) (hbd : body = [.Assign [.Attribute (.Name "self" q1) g q2] ex q3])
    (hv : ∀ (cdv : Value) (A : Around) (outer : List PySem.Env) (s : Shared) (H : Hp) (E : XK), PE (cxG P w K mg base ("self" :: N) qual scope fa cdv A outer s H E) (.Name "self" q1) (tVar 0))
    (hs : ∀ (cdv : Value) (A : Around) (outer : List PySem.Env) (s : Shared) (H : Hp) (E : XK), swapsWith ex (some (.Attribute (.Name "self" q1) g q2)) q3.line (cxG P w K mg base ("self" :: N) qual scope fa cdv A outer s H E).env = pure false)
    (hbody : ∀ (cdv : Value) (A : Around) (outer : List PySem.Env) (s : Shared) (H : Hp) (E : XK) (pa : Option Addr) (F0 : Hp) (a : Addr), Kx (cxG P w K mg base ("self" :: N) qual scope fa cdv A outer s H E) ⟨K, mg, pa, F0, H, [a]⟩ (wE E) k →
      XE (cxG P w K mg base ("self" :: N) qual scope fa cdv A outer s H E) ⟨K, mg, pa, F0, H, [a]⟩ (wE E) ex me) : FnG P w K mg base (k + 1) fa fd ("self" :: ps) (spN K mg [g] ps.length (dN N.length me)) := by
  refine fnG_of F S (fun vs H Q E h => h.1) fun cdv A outer s H vs Q E hg hr h => ?_
  obtain ⟨hl, a, C0, dx, args, pa, F0, z, ds, Qd, Xd, rfl, e0, hf, np, hc, hn, sub, pz, r, hm, hq, hx⟩ := h
  have kx0 := kx_of (P := P) (w := w) (K := K) (mg := mg) (base := base) (E := E) (pa := pa) (F := F0) (outer := outer) (H := H) S hg hr
  have kx : Kx (cxG P w K mg base ("self" :: N) qual scope fa cdv A outer s H E) ⟨K, mg, pa, F0, H, [a]⟩ (wE E) k := ⟨kx0.hK, kx0.hmg, kx0.calm, kx0.gu, kx0.room, kx0.tk, kx0.nd, kx0.po⟩
  obtain ⟨t, h1, h2⟩ := (hbody cdv A outer s H E pa F0 a kx).ex
  have hnl : args.length ≤ N.length := by
    have := congrArg List.length S.pre
    rw [List.length_take] at this
    simp only [List.length_cons] at this hl
    omega
  have S0 : StOk ⟨K, mg, pa, F0, H, [a]⟩ (L2.start ("self" :: N) (.ref a :: args)) (.no :: rho0 N.length ds) F0 H z := by
    have s1 := start_ok (K := K) (mg := mg) (N := N) sub pz r hnl
    have s2 : StOk ⟨K, mg, pa, F0, H, []⟩ (some (.ref a) :: L2.start N args) (.no :: rho0 N.length ds) F0 H z := s1.cons
    have es : L2.start ("self" :: N) (.ref a :: args) = some (.ref a) :: L2.start N args := by
      unfold L2.start
      simp
    rw [es]
    refine ⟨s2.sub, s2.f0, s2.h0, s2.nw, s2.len, fun i v sl e1 e2 => ?_, s2.apart, s2.pz, fun b hb => ?_, s2.cs⟩
    · have := s2.env i v sl e1 e2
      cases sl with
      | no => cases v <;> trivial
      | fr d =>
        cases v with
        | none => exact this.elim
        | some v => exact this
      | own xs =>
        cases i with
        | zero => cases e2
        | succ i =>
          have e3 : (rho0 N.length ds)[i]? = some (.own xs) := e2
          unfold rho0 at e3
          by_cases hi : i < ds.length
          · rw [List.getElem?_append_left (by simpa using hi), List.getElem?_map] at e3
            cases q : ds[i]? with
            | none => rw [q] at e3; cases e3
            | some u => rw [q] at e3; cases e3
          · rw [List.getElem?_append_right (by simp; omega), List.getElem?_replicate] at e3
            split at e3 <;> cases e3
    · cases hb with
      | head => exact ⟨hf, ⟨_, e0⟩, np⟩
      | tail _ h => cases h
  subst hbd
  refine ⟨_, pss_one (ps_fld (hv cdv A outer s H E) h1 (hs cdv A outer s H E)), ?_⟩
  refine h2 _ _ F0 H z _ _ _ S0 hm (fun d ρ' z' v F' H' q S' ff k' o' r' => ?_) (fun e ρ' z' cls dd F' H' q S' ff r' => hx e z' cls dd F' H' q ⟨S'.f0, S'.sub, S'.h0, S'.nw, S'.pz, S'.cs⟩ r')
  have h3 : H' a = some (.ins C0 dx []) := k'.ke a _ e0 np (nog hf)
  have h4 : F' a = none := (S'.hd a List.mem_cons_self).1
  refine ⟨.ref a, ?_, a, C0, dx, [], rfl, h3, hc, hn g List.mem_cons_self, by decide, ?_⟩
  · unfold L2.start
    rfl
  · exact hq [d] z' [v] F' H' q ⟨S'.f0, S'.sub, S'.h0, S'.nw, S'.pz, S'.cs⟩ h4 rfl (.cons r' .nil)
theorem mk_guards {B : Around} {u : Addr} {us : List Value} {kw : List (Str × Value)} : (B.under (.builtin "type.__call__" ⟨.ref u :: us, kw⟩)).guards = B.guards := by
  have h : (Code.builtin "type.__call__" ⟨.ref u :: us, kw⟩).guards = [] := by
    first | rfl | simp [Code.guards, Code.isGuard, guardIds]
  show pushGuards (Code.builtin "type.__call__" ⟨.ref u :: us, kw⟩).guards B.guards = B.guards
  rw [h]
  rfl
theorem run_mkG {pins : List (Addr × Obj)} {σ : L2.St} {H : Hp} {s : Shared} {Q : VK} {us ws : List Value} {vs zs : List V} {g : Addr} {fd : FuncData} {ps ks : List Str} {sp : Sp} {gV : List V → List V → List V} {gD : List D → List D → List D}
    (M : Mk X.K A g) (F : FnG X.prog X.w X.K X.mg X.base j g fd ps sp) (kx : Kx X C W k) (hj : j + 1 ≤ k) (hb : BG X.K fd ps ks (n + 1) gV gD) (I : Inv X pins σ H s) (r : Vals vs us) (rz : Vals zs ws) (l1 : vs.length = n) (l2 : zs.length = ks.length)
    (h : ∀ o dx, H o = none → H dx = none → dx ≠ o → sp (gV (.ref o :: vs) zs) (upd (upd H dx (.own o)) o (.ins A dx [])) (fun v H2 => v = .non ∧ Q (.ref o) H2) (WE W σ)) :
    wpAny (model X.prog X.w) X.A (call (.ref A) us (ks.zip ws)) (EP X pins σ Q) X.xe s := by
  have f1 : H (s.heap.objs.size + 1) = none := I.hok.fresh (Nat.le_succ _)
  have f0 : H s.heap.objs.size = none := I.hok.fresh (Nat.le_refl _)
  have hq := h _ _ f1 f0 (Nat.ne_of_lt (Nat.lt_succ_self _))
  have I2 := Inv.made (C := A) I
  have rs : Vals (V.ref (s.heap.objs.size + 1) :: vs) (Value.ref (s.heap.objs.size + 1) :: us) := .cons rfl r
  obtain ⟨us', b, rr⟩ := hb.to _ (Value.ref (s.heap.objs.size + 1) :: us) ws I2.kIn (rs.length.symm.trans (congrArg Nat.succ l1)) (rz.length.symm.trans l2)
  have hroom : Room (j + 1) X.A := kx.room.mono hj
  have run := F.run _ X.stack _ _ ⟨Value.ref (s.heap.objs.size + 1) :: us, ks.zip ws⟩ us' _ _ (WE W σ) (mk_guards.trans kx.gu) (hroom.make A us (ks.zip ws)) (I2.env0.make A us (ks.zip ws)) b (rr _ _ rs rz) hq
  refine wpAny_call (make_map (f := g) I.kIn M.makes M.init (beq_iff_eq.mp M.fn) (codeAny_mono run fun r s' hq' => ?_))
  rcases r with er | fl
  · exact passAt kx.tk σ pins _ _ er s' I2 hq'
  · cases fl with
    | ret u =>
      obtain ⟨v, H', I3, rv, ev, q3⟩ := I2.after hq'
      subst ev
      exact ⟨rv, V.ref _, H', I3, rfl, q3⟩
    | _ => exact False.elim hq'
def tMkG (A : Addr) (n m : Nat) (sp : Sp) (gV : List V → List V → List V) (W : WX) (t tk : TA) : TE := fun σ H Q => t σ H fun vs H1 => tk σ H1 fun zs H2 => vs.length = n ∧ zs.length = m ∧
  ∀ o dx, H2 o = none → H2 dx = none → dx ≠ o → sp (gV (.ref o :: vs) zs) (upd (upd H2 dx (.own o)) o (.ins A dx [])) (fun v H3 => v = .non ∧ Q (.ref o) H3) (WE W σ)
/-- the class that a global name holds, its __init__ -/
structure GC (X : Cx) (x : Str) (A : Addr) (j : Nat) (g : Addr) (fd : FuncData) (ps : List Str) (sp : Sp) : Prop where
  fn : FnG X.prog X.w X.K X.mg X.base j g fd ps sp
  mg : X.mg x = some (.ref A)
  mkr : Mk X.K A g
  cls : Cls X.K A
theorem keep2 {pa : Option Addr} {F H : Hp} {o dx : Addr} {u v : HO} (ho : H o = none) (hdx : H dx = none) : Keep pa F F H (upd (upd H dx v) o u) := (Keep.new hdx).updH ho
/-- a new object, whose fields have been laid, is frozen -/
theorem StOk.newI {σ : L2.St} {ρ : Rho} {F H F' H1 : Hp} {z z' : Zs} {o dx : Addr} {v : HO} {u : HO} (S : StOk C σ ρ F H z) (ho : H o = none) (hdx : H dx = none) (ne : dx ≠ o) (a : Aft C.K C.mg C.pa F (upd (upd H dx (.own o)) o u) F' H1 z') (hF : F' o = none) (nv : NG v) :
    StOk C σ ρ (upd F' o v) (upd H1 o v) z' ∧ Same F (upd F' o v) ∧ Keep C.pa F (upd F' o v) H (upd H1 o v) := by
  have npo : some o ≠ C.pa := S.npa ho
  have npd : some dx ≠ C.pa := S.npa hdx
  have ff : Same F (upd F' o v) := a.1.trans (Same.new hF)
  have kk : Keep C.pa F (upd F' o v) H (upd H1 o v) := by
    have k1 : Keep C.pa F F' H H1 := (keep2 ho hdx).trans a.2.2.1
    have k2 := k1.updH (o := v) ho
    refine ⟨k2.ke, fun b k e => k2.gn b k (gh_upd nv e), k2.dm⟩
  refine ⟨S.grow ff (Sub.upd2 a.2.1) kk (fun b h1 h2 => ?_) (fun q e => ?_) (a.2.2.2.2.2.grow (Same.new hF) (fun _ _ e => gh_upd nv e) fun b k w e1 e2 => by rw [upd_ne (ne_of_none e1 hF)]; exact e2), ff, kk⟩
  · by_cases q : b = o
    · rw [q]; exact ho
    · rw [upd_ne q] at h1
      have := a.2.2.2.1 b h1 h2
      rw [upd_ne q] at this
      by_cases q2 : b = dx
      · rw [q2]; exact hdx
      · rw [upd_ne q2] at this; exact this
  · obtain ⟨h1, x, y, h2, rr⟩ := a.2.2.2.2.1 q e
    have ne1 : q ≠ o := fun w => npo (by rw [← w]; exact e.symm)
    exact ⟨by rw [upd_ne ne1]; exact h1, x, y, by rw [upd_ne ne1]; exact h2, rr⟩
/-- C(..) -/
def fNew (c : Str) (ns : List Str) (n m : Nat) (mi : List D → E0 (List D)) (ds es : List D) : E D := fun ρ Q X z => ds.length = n ∧ es.length = m ∧ mi (ds ++ es) (fun fs z' => fs.length = ns.length ∧ Q (.ins c ns fs) ρ z') (fun e z' => X e ρ z') z
def eNew (c : Str) (ns : List Str) (n m : Nat) (mi : List D → E0 (List D)) (ma mk : E (List D)) : E D := eb ma fun ds => eb mk fun es => fNew c ns n m mi ds es
theorem den_new {ns : List Str} {N n1 n2 : Nat} {ta tk : TA} {ma mk : E (List D)} {mi : List D → E0 (List D)} {gV : List V → List V → List V} (kx : Kx X C W k) (hm : X.mg c = some (.ref A)) (hc : Cls X.K A) (hn : ∀ f ∈ ns, NoAttr X.K A f) (hN : N = n1 + n2)
    (hg : ∀ o vs zs, vs.length = n1 → zs.length = n2 → gV (o :: vs) zs = o :: (vs ++ zs)) (ha : Den C W ta ma (kL C)) (hk : Den C W tk mk (kL C)) : Den C W (tMkG A n1 n2 (spN X.K X.mg ns N mi) gV W ta tk) (eNew c ns n1 n2 mi ma mk) (kR C) := by
  refine Den.bind (u := fun vs σ H Q => tk σ H fun zs H2 => vs.length = n1 ∧ zs.length = n2 ∧ ∀ o dx, H2 o = none → H2 dx = none → dx ≠ o → spN X.K X.mg ns N mi (gV (.ref o :: vs) zs) (upd (upd H2 dx (.own o)) o (.ins A dx [])) (fun v H3 => v = .non ∧ Q (.ref o) H3) (WE W σ)) back_R ha ?_
  intro H0 σ ρ F H z ds vs Qd Xd Q S ra hm' hq hx
  refine hk σ ρ F H z _ Xd _ S hm' (fun es ρ2 z2 zs F2 H2 q2 S2 ff2 k2 o2 rb => ?_) hx
  obtain ⟨q1, q2, q3⟩ := q2
  have ra2 : C.RL F2 vs ds := RpL.mono ff2 ra
  have e1 := (RpL.length ra).trans q1
  have e2 := (RpL.length rb).trans q2
  refine ⟨e1, e2, fun o dx ho hdx ne => ?_⟩
  rw [hg (.ref o) vs zs e1 e2]
  have npo := S2.npa ho
  have fo : F2 o = none := S2.free ho
  have fd : F2 dx = none := S2.free hdx
  refine ⟨by simp [e1, e2, hN], o, A, dx, vs ++ zs, C.pa, F2, z2, ds ++ es, _, _, rfl, upd_same, fo, npo, hc, hn, ?_, ?_, ?_, q3, fun fs z' xs F' H1 q' a f1 l1 r1 => ⟨rfl, ?_⟩, fun e z' cls dd F' H' q' a r => ?_⟩
  · exact Sub.updR (Sub.updR S2.sub fd) fo
  · refine ⟨fun q e => ?_, ?_⟩
    rotate_left
    · rw [kx.hK, kx.hmg]
      exact S2.cs.grow (Same.refl _) (fun _ _ e => e) fun b k w e1 e2 => by rw [upd_ne (ne_of_none e2 ho), upd_ne (ne_of_none e2 hdx)]; exact e2
    obtain ⟨h1, x, y, h2, rr⟩ := S2.pz q e
    have n1 : q ≠ o := ne_of_none h2 ho
    have n2 : q ≠ dx := ne_of_none h2 hdx
    exact ⟨h1, x, y, by rw [upd_ne n1, upd_ne n2]; exact h2, rr⟩
  · rw [kx.hK, kx.hmg]; exact RpL.append ra2 rb
  · rw [kx.hK, kx.hmg] at r1 a
    obtain ⟨S3, f3, k3⟩ := S2.newI (v := .ins A dx (ns.zip xs)) ho hdx ne a f1 ngI
    refine hq _ ρ2 z' (.ref o) _ _ q'.2 S3 (ff2.trans f3) (k2.trans k3) o2 ?_
    exact .ins (by rw [← kx.hmg]; exact hm) upd_same l1 (RpL.mono (Same.new f1) r1)
  · rw [kx.hK, kx.hmg] at r a
    have k0 : Keep C.pa F2 F2 H2 (upd (upd H2 dx (.own o)) o (.ins A dx [])) := keep2 ho hdx
    refine hx e ρ2 z' cls dd F' H' q' (S2.grow a.1 a.2.1 (k0.trans a.2.2.1) (fun b h1 h2 => ?_) a.2.2.2.2.1 a.2.2.2.2.2) (ff2.trans a.1) ?_
    · have := a.2.2.2.1 b h1 h2
      by_cases w1 : b = o
      · rw [w1]; exact ho
      · rw [upd_ne w1] at this
        by_cases w2 : b = dx
        · rw [w2]; exact hdx
        · rw [upd_ne w2] at this; exact this
    · skip
      exact r
theorem xe_new {ns : List Str} {g : Addr} {fd : FuncData} {ps : List Str} {mi : List D → E0 (List D)} {ms : E (List D)} (G : GC X x A j g fd ps (spN X.K X.mg ns n mi)) (kx : Kx X C W k) (hj : j + 1 ≤ k) (hb : BG X.K fd ps [] (n + 1) gL gL) (hn : ∀ f ∈ ns, NoAttr X.K A f) (hg : Gl X x)
    (ha : XA X C W (e :: es) ms) (hdb : (x == ("__debug__" : Str)) = false := by decide) (he : starEach (e :: es) X.env = (false, eval e X.env) :: starEach es X.env := by rfl) (hpl : (backTo pos (starEach es X.env)).any (·.1) = false := by rfl) :
    XE X C W (.Call (.Name x p) (e :: es) [] pos) (eNew x ns n 0 mi ms (ep [])) := by
  obtain ⟨t, t1, t2⟩ := ha.ex
  refine ⟨tMkG A n 0 (spN X.K X.mg ns n mi) gL W t tNil, ⟨fun pins s σ H Q I h => ?_⟩, den_new kx G.mg G.cls hn rfl (fun o vs zs h1 h2 => by cases zs with
    | nil => simp [gL]
    | cons a b => cases h2) t2 (fun σ ρ F H z Qd Xd Q S hm hq hx => S.same (R := kL C) hm .nil hq)⟩
  refine wpAny_Call_Name_kw (ld_glob I hg G.mg ?_ hdb)
  refine PySem.W.callWith_K (h₀ := X.base) I.ok.mod.kin G.mkr.kp (thn (t1.run pos pins s σ H _ I h) fun us s1 ⟨vs, H1, I1, r, l1, l2, q⟩ => ⟨I1.kIn, ?_⟩) he hpl
  exact run_mkG (us := us) (ws := []) G.mkr G.fn kx hj hb I1 r .nil l1 rfl q
theorem xe_newK0 {ns : List Str} {g : Addr} {fd : FuncData} {ps ks : List Str} {mi : List D → E0 (List D)} {mk : E (List D)} {gV : List V → List V → List V} {gD : List D → List D → List D} (G : GC X x A j g fd ps (spN X.K X.mg ns ks.length mi)) (kx : Kx X C W k) (hj : j + 1 ≤ k) (hb : BG X.K fd ps ks 1 gV gD)
    (hgV : ∀ o zs, zs.length = ks.length → gV [o] zs = o :: zs) (hn : ∀ f ∈ ns, NoAttr X.K A f) (hg : Gl X x) (hkw : XKw X C W kws mk) (hall : (backToKw pos (keywordEach kws X.env)).all (·.1.isSome) = true := by rfl) (hks : (backToKw pos (keywordEach kws X.env)).filterMap (·.1) = ks := by rfl)
    (hdb : (x == ("__debug__" : Str)) = false := by decide) (hpl : ((backTo pos (starEach [] X.env)).any (·.1) || (backToKw pos (keywordEach kws X.env)).any (·.1.isNone)) = false := by rfl) :
    XE X C W (.Call (.Name x p) [] kws pos) (eNew x ns 0 ks.length mi (ep []) mk) := by
  obtain ⟨t, t1, t2⟩ := hkw.ex
  refine ⟨tMkG A 0 ks.length (spN X.K X.mg ns ks.length mi) gV W tNil t, ⟨fun pins s σ H Q I h => ?_⟩, den_new kx G.mg G.cls hn (by simp) (fun o vs zs h1 h2 => by cases vs with
    | nil => exact hgV o zs h2
    | cons a b => cases h1) (fun σ ρ F H z Qd Xd Q S hm hq hx => S.same (R := kL C) hm .nil hq) t2⟩
  refine wpAny_Call_Name_kw (ld_glob I hg G.mg ?_ hdb)
  refine PySem.W.callWith_KW0 (h₀ := X.base) I.ok.mod.kin G.mkr.kp hall (thn (t1.run pos pins s σ H _ I h) fun ws s2 ⟨zs, H2, I2, rz, l1, l2, q2⟩ => ⟨I2.kIn, ?_⟩) hpl
  rw [hks]
  exact run_mkG (us := []) (ws := ws) G.mkr G.fn kx hj hb I2 .nil rz rfl l2 q2
end
end DL

namespace DL
open PySem PySem.Spec PyProof.Rows L2

/-! ## try with several clauses, each with the same name for its error -/
abbrev Cl1 := Value × (Addr → Value → Option Addr → TS)
/-- the ends behind a suite: the error's name is gone -/
def endI (i : Nat) (D : Ends) : Ends := { nx := fun σ' H' => D.nx (σ'.set i none) H', rt := D.rt, bk := fun σ' H' => D.bk (σ'.set i none) H', ct := fun σ' H' => D.ct (σ'.set i none) H' }
def wCl (K : PySem.W.Frag) (i : Nat) (Wo : WX) (D : Ends) : List Cl1 → WX
  | [] => Wo
  | c :: r => fun cls d σ H => ∃ b, PySem.W.exmOne K cls c.1 = some b ∧ (b = true → ∀ a, H a = none → c.2 a cls d (endI i D) (σ.set i (some (.ref a))) H) ∧ (b = false → wCl K i Wo D r cls d σ H)
inductive ClsOk (X : Cx) (n : Str) : List ExceptHandler → List Cl1 → Prop
  | nil : ClsOk X n [] []
  | cons {x : Str} {c : Value} {ts : Addr → Value → Option Addr → TS} {s0 : Stmt} {su : List Stmt} {np p' : Pos} {hds : List ExceptHandler} {l : List Cl1} (hc : Names X x c)
      (hsu : ∀ (a : Addr) (ob : Obj) (cls : Value) (d : Option Addr) (pn : List (Addr × Obj)), Zc cls d ob → (∃ vs, ob.data = .fields vs) → PSs (X.suite a ((a, ob) :: pn)) (s0 :: su) (ts a cls d)) (r : ClsOk X n hds l) :
      ClsOk X n (.ExceptHandler (some (.Name x np)) (some n) (s0 :: su) p' :: hds) ((c, ts) :: l)
section
variable {X : Cx} {n : Str} {i : Nat} {body : List Stmt} {hd0 : ExceptHandler} {hds : List ExceptHandler} {l : List Cl1} {pos : Pos} {tb : WX → TS} {Wo : WX}
theorem ps_try_cls (hst : X.stack = X.env :: X.outer) (hfm : X.env.frame = some X.env.locals) (hN : X.N.Nodup) (hi : X.N[i]? = some n) (hln : X.env.kindOf n = some .local) (tk : Takes X Wo)
    (hb : ∀ (W : WX) (pn : List (Addr × Obj)) (xe : Value → Shared → Prop), Takes (X.tr pn xe) W → PassesOwn (model X.prog X.w) X.A X.env xe → PSs (X.tr pn xe) body (tb W))
    (hh : ClsOk X n (hd0 :: hds) l) : PS X (.Try body (hd0 :: hds) [] [] pos) (fun D σ H => tb (wCl X.K i Wo D l) D σ H) := by
  refine ⟨fun pins s σ H D I h => wpAny_Try_except ?_⟩
  have kk := I.ok
  have hfr : X.A.frames = some (X.env :: X.outer) := kk.frames.trans (congrArg some hst)
  have lo : Loc X.env.scope n := .inl hln
  -- what is done with an error that left the body
  let cat : Value → Shared → Prop := fun e s₁ => wpAny (model X.prog X.w) X.A (noteFrame e X.env) (fun _ s₂ => wpAny (model X.prog X.w) X.A (setFlight e none)
    (fun _ s₃ => wpAny (model X.prog X.w) X.A (handleBy e X.env (hd0 :: hds)) (SP X pins D) X.xe s₃) X.xe s₂) X.xe s₁
  have catches : ∀ u s', L2.XE (X.tr (X.pn ++ pins) cat) (wCl X.K i Wo D l) u s' → cat u s' := by
    rintro u s' ⟨a, B, sI, pins', σ1, H1, cls, d, rfl, T0, nb, up, sky, na, os, ag, wish⟩
    have T1 : Inv X pins σ1 H1 sI := T0.ofTry kk
    refine Sky.land Zc.steady hfr hfm (hst ▸ sky) fun g1 fly1 up1 => ?_
    have lands : ∀ {g : Heap}, HandSPX.FlyingZ B (X.env :: X.outer) a (Zc cls d) g → s'.heap.UpToSlots g → Inv X pins σ1 H1 { s' with heap := g } := fun {g} fl u1 => T1.landed nb fl.1 (up.trans u1) os ag
    have T2 := lands fly1 up1
    obtain ⟨ob, vs, e1, z1, d1⟩ := fly1.there
    have noFrame : a ∉ frs (X.env :: X.outer) := fun hm => by
      obtain ⟨_, ob2, e2, hnf⟩ := fly1.2.2.1.mem hm
      rw [e1] at e2
      cases e2
      exact hnf _ d1
    have nL : a ≠ X.env.locals := fun q => noFrame (List.mem_filterMap.mpr ⟨X.env, .head _, hfm.trans (congrArg some q.symm)⟩)
    have nF : a ∉ X.fs := fun hm => by
      obtain ⟨ev, he, q⟩ := List.mem_filterMap.mp hm
      exact noFrame (List.mem_filterMap.mpr ⟨ev, .tail _ he, q⟩)
    have T3 := T2.suite e1 d1 na nL nF
    suffices go : ∀ {hs2 : List ExceptHandler} {l2 : List Cl1}, ClsOk X n hs2 l2 → wCl X.K i Wo D l2 cls d σ1 H1 → wpAny (model X.prog X.w) X.A (handleBy (.ref a) X.env hs2) (SP X pins D) X.xe { s' with heap := g1 } from go hh wish
    intro hs2 l2 ck
    induction ck with
    | nil =>
      intro w0
      refine wpAny_handleBy_nil ?_
      obtain ⟨k1, k2, k3, ob', vs', Tb, oT, ts', e1', z1', d1', h1', hr'⟩ := id fly1
      have last : wpAny (model X.prog X.w) X.A (setFlight (.ref a) X.env.frame) (fun _ s4 => wpAny (model X.prog X.w) X.A (throw (.ref a) : Sem Flow) (SP X pins D) X.xe s4) X.xe { s' with heap := g1 } := by
        rw [hfm]
        refine HandSPX.setFlight_upZ fly1 fun g2 held up2 => wpAny_throw (tk _ _ ⟨a, B, sI, pins, σ1, H1, cls, d, rfl, T1, nb, (up.trans up1).trans up2, ?_, na, os, ag, w0⟩)
        rw [hst]
        exact .inr (.inr held)
      unfold PySem.passOn
      refine wpAny_bind (wpAny_field e1' d1' h1' ?_)
      have nn : ¬ ((Value.ref Tb == Value.none) = true) := by simp
      rw [if_neg nn]
      first
        | exact wpAny_bind (wpAny_pure (wpAny_bind last))
        | exact wpAny_bind last
    | @cons x c ts s0 su np p' hs3 l3 hc hsu rr ih =>
      rintro ⟨b, hb1, yes, no⟩
      refine wpAny_handleBy_cons (codeAny_handlers_test ?_) (by rintro ⟨⟩)
      have ty : PySem.W.Looks (model X.prog X.w) g1 (typeOf (.ref a)) cls := fun A Q E s k q => wpAny_typeOf_ref (k _ _ e1) (z1.1.symm ▸ q)
      have isIt := PySem.W.exm_one (M := model X.prog X.w) T2.kIn ty hb1
      have names : ∀ {Q : Value → Shared → Prop} {E : Value → Shared → Prop}, Q c { s' with heap := g1 } → wpAny (model X.prog X.w) (X.A.mark (some (.ref a))) (eval (.Name x np) X.env) Q E { s' with heap := g1 } := fun {Q E} q => by
        rcases hc with ⟨hg, hdb, hm | ⟨hm, hv, hnn⟩⟩
        · exact ld_glob (X := X.suite a ((a, ob) :: (X.pn ++ pins))) T3 hg hm q hdb
        · exact ld_blt (X := X.suite a ((a, ob) :: (X.pn ++ pins))) T3 hg hm hv q hnn hdb
      refine names (isIt.here ?_)
      cases b with
      | false => exact ih (no rfl)
      | true =>
        refine codeAny_handlers_suite_as (HandSPX.lands_againZ fly1 fun g2 fly2 up2 => ?_)
        obtain ⟨oc, vc, e2, z2, d2⟩ := fly2.there
        have T4 := (lands fly2 (up1.trans up2)).suite e2 d2 na nL nF
        refine store_ok (X := X.suite a ((a, oc) :: (X.pn ++ pins))) (v := .ref a) T4 hN hi lo rfl (fun s5 T5 => ?_) (.inr hln)
        have run := (hsu a oc cls d (X.pn ++ pins) z2 ⟨_, d2⟩).run [] s5 _ H1 _ T5 (yes rfl a na)
        refine wpAny_mono run (fun f s6 q6 => ?_) (fun _ _ q => False.elim q)
        have after : ∀ {σ6 : L2.St} {H6 : Hp} {Q : Shared → Prop}, Inv (X.suite a ((a, oc) :: (X.pn ++ pins))) [] σ6 H6 s6 → (∀ s7, Inv X pins (σ6.set i none) H6 s7 → Q s7) →
            wpAny (model X.prog X.w) X.A (do bindName X.env n .none; unbindBehindTheSuite X.env n p') (fun _ s7 => Q s7) X.xe s6 := fun {σ6 H6 Q} T6 hq => gone_ok (T6.unsuite kk) hN hi hln hq
        cases f with
        | ret u =>
          obtain ⟨v6, σ6, H6, T6, r6, w6⟩ := q6
          exact after T6 fun s7 T7 => ⟨_, _, _, T7, r6, w6⟩
        | next => obtain ⟨σ6, H6, T6, w6⟩ := q6; exact after T6 fun s7 T7 => ⟨_, _, T7, w6⟩
        | brk => obtain ⟨σ6, H6, T6, w6⟩ := q6; exact after T6 fun s7 T7 => ⟨_, _, T7, w6⟩
        | cont => obtain ⟨σ6, H6, T6, w6⟩ := q6; exact after T6 fun s7 T7 => ⟨_, _, T7, w6⟩
  have run := (hb (wCl X.K i Wo D l) (X.pn ++ pins) cat catches PassesOwn.looking).run [] s σ H D (I.toTry _) h
  refine wpAny_mono run (fun f s1 q => ?_) (fun e s1 q => q)
  cases f with
  | ret u => obtain ⟨v, σ2, H2, T2, r, w2⟩ := q; exact ⟨v, σ2, H2, T2.ofTry kk, r, w2⟩
  | next => obtain ⟨σ2, H2, T2, w2⟩ := q; exact wpAny_execs_nil ⟨σ2, H2, T2.ofTry kk, w2⟩
  | brk => obtain ⟨σ2, H2, T2, w2⟩ := q; exact ⟨σ2, H2, T2.ofTry kk, w2⟩
  | cont => obtain ⟨σ2, H2, T2, w2⟩ := q; exact ⟨σ2, H2, T2.ofTry kk, w2⟩
end
abbrev Cl := (Str → Option Bool) × (Addr → Addr → Str → E Fl)
def trL (i : Nat) (Q : Fl → Rho → Zs → Prop) (X : Er → Rho → Zs → Prop) : List Cl → Er → Rho → Zs → Prop
  | [] => X
  | c :: r => fun e ρ z => ∃ b, c.1 e.1 = some b ∧ if b = true then ∀ a x, c.2 a x e.1 (ρ.set i (.fr (.exn a x e.1 e.2))) (dropX i Q) (fun _ _ _ => False) z else trL i Q X r e ρ z
def sTryL (i : Nat) (mb : E Fl) (cs : List Cl) : E Fl := fun ρ Q X z => mb ρ Q (trL i Q X cs) z
inductive XCl (X : Cx) (C : CC) (n : Str) : List ExceptHandler → List Cl → Prop
  | nil : XCl X C n [] []
  | cons {x : Str} {cv : Value} {tbl : Str → Option Bool} {hM : Addr → Addr → Str → E Fl} {s0 : Stmt} {su : List Stmt} {np p' : Pos} {hds : List ExceptHandler} {l : List Cl} (hc : Names X x cv)
      (ht : ∀ nm b A, tbl nm = some b → C.mg nm = some (.ref A) → PySem.W.exmOne X.K (.ref A) cv = some b)
      (hsu : ∀ (a : Addr) (ob : Obj) (A x : Addr) (nm : Str) (pn : List (Addr × Obj)), C.mg nm = some (.ref A) → Zc (.ref A) (some x) ob → (∃ vs, ob.data = .fields vs) → tbl nm = some true → XSs (X.suite a ((a, ob) :: pn)) C wN (s0 :: su) (hM a x nm))
      (r : XCl X C n hds l) : XCl X C n (.ExceptHandler (some (.Name x np)) (some n) (s0 :: su) p' :: hds) ((tbl, hM) :: l)
section
variable {X : Cx} {C : CC} {W : WX} {n : Str} {i k : Nat} {body : List Stmt} {hd0 : ExceptHandler} {hds : List ExceptHandler} {cs : List Cl} {pos : Pos} {mb : E Fl}
theorem XCl.ok : ∀ {hds : List ExceptHandler} {cs : List Cl}, XCl X C n hds cs → ∃ l, ClsOk X n hds l ∧ ∀ (Qd : Fl → Rho → Zs → Prop) (Xd : Er → Rho → Zs → Prop) (Dn : Ends) (H0 F : Hp) (e : Er) (ρ : Rho) (z : Zs) (cls : Value) (dd : Option Addr) (σ : L2.St) (F' H' : Hp),
    StOk C σ ρ F' H' z → Same F F' → ExR C F' H' e cls dd → trL i Qd Xd cs e ρ z → (∀ fl ρ' z' F' H', Qd fl ρ' z' → Same F F' → EndOk C Dn H0 fl ρ' z' F' H') →
    (∀ e ρ' z' cls dd σ' F' H', Xd e ρ' z' → StOk C σ' ρ' F' H' z' → Same F F' → ExR C F' H' e cls dd → W cls dd σ' H') → wCl X.K i W Dn l cls dd σ H'
  | _, _, .nil => ⟨[], .nil, fun Qd Xd Dn H0 F e ρ z cls dd σ F' H' S ff r h hq hx => hx e ρ z cls dd σ F' H' h S ff r⟩
  | _, _, @XCl.cons _ _ _ x cv tbl hM s0 su np p' hds l hc ht hsu rr => by
    obtain ⟨l2, ok2, h2⟩ := XCl.ok rr
    let tsU : Addr → Value → Option Addr → TS := fun a cls d D σ H => ∀ ob pn, Zc cls d ob → (∃ vs, ob.data = .fields vs) → ∃ t, PSs (X.suite a ((a, ob) :: pn)) (s0 :: su) t ∧ t D σ H
    refine ⟨(cv, tsU) :: l2, .cons hc (fun a ob cls d pn hz hv => ?_) ok2, fun Qd Xd Dn H0 F e ρ z cls dd σ F' H' S ff r h hq hx => ?_⟩
    · constructor
      intro pins s σ H D I h
      obtain ⟨t, g1, g2⟩ := h ob pn hz hv
      exact g1.run pins s σ H D I g2
    · obtain ⟨b, hb1, q⟩ := h
      have r0 := r
      obtain ⟨A, x', v, g1, rfl, rfl, g4, g5⟩ := r
      refine ⟨b, ht e.1 b A hb1 g1, fun hb2 a ha ob pn' hz hv => ?_, fun hb2 => ?_⟩
      · subst hb2
        rw [if_pos rfl] at q
        obtain ⟨t2, k1, k2⟩ := (hsu a ob A x' e.1 pn' g1 hz hv hb1).ex
        have S2 : StOk C (σ.set i (some (.ref a))) (ρ.set i (.fr (.exn a x' e.1 e.2))) F' H' z := S.setF i (.exn g4 g5)
        refine ⟨t2, k1, k2 _ _ F' H' z _ (fun _ _ _ => False) _ S2 (q a x') (fun fl ρ2 z2 F2 H2 q2 ff2 => ?_) (fun e ρ' z' cls dd σ' F' H' q => q.elim)⟩
        have h3 := fun fl q => hq fl (ρ2.set i .no) z2 F2 H2 q (ff.trans ff2)
        cases fl with
        | nx => exact fun σ2 S2 => h3 .nx q2 _ (S2.setNo i none)
        | bk => exact fun σ2 S2 => h3 .bk q2 _ (S2.setNo i none)
        | ct => exact fun σ2 S2 => h3 .ct q2 _ (S2.setNo i none)
        | ret d => exact hq (.ret d) ρ2 z2 F2 H2 q2 (ff.trans ff2)
        | retO d => exact hq (.retO d) ρ2 z2 F2 H2 q2 (ff.trans ff2)
      · subst hb2
        rw [if_neg Bool.false_ne_true] at q
        exact h2 Qd Xd Dn H0 F e ρ z _ _ σ F' H' S ff r0 q hq hx
theorem xs_tryL (kx : Kx X C W k) (hs : X.stack = X.env :: X.outer) (hf : X.env.frame = some X.env.locals) (hi : X.N[i]? = some n) (hln : X.env.kindOf n = some .local)
    (hb : ∀ (W' : WX) (pn : List (Addr × Obj)) (xe : Value → Shared → Prop), Kx (X.tr pn xe) C W' k → XSs (X.tr pn xe) C W' body mb) (hc : XCl X C n (hd0 :: hds) cs) : XS X C W (.Try body (hd0 :: hds) [] [] pos) (sTryL i mb cs) := by
  let tbU : WX → TS := fun W' D σ H => ∀ pn xe, Kx (X.tr pn xe) C W' k → ∃ t, PSs (X.tr pn xe) body t ∧ t D σ H
  obtain ⟨l, ok, hl⟩ := XCl.ok (i := i) (W := W) hc
  refine ⟨_, ps_try_cls (tb := tbU) hs hf kx.nd hi hln kx.tk (fun W' pn xe tk po => ?_) ok, fun σ ρ F H z Qd Xd Dn S hm hq hx => ?_⟩
  · constructor
    intro pins s σ H D I h
    obtain ⟨t, h1, h2⟩ := h pn xe ⟨kx.hK, kx.hmg, kx.calm, kx.gu, kx.room, tk, kx.nd, po⟩
    exact h1.run pins s σ H D I h2
  · intro pn xe kx'
    obtain ⟨t, h1, h2⟩ := (hb _ pn xe kx').ex
    exact ⟨t, h1, h2 σ ρ F H z Qd _ Dn S hm hq fun e ρ' z' cls dd σ' F' H' q S' ff r => hl Qd Xd Dn H F e ρ' z' cls dd σ' F' H' S' ff r q hq hx⟩
end
end DL

namespace DL
open PySem PySem.Spec PyProof.Rows L2

/-! ## len(set(..)) of texts -/
def stp (σ : List Str) (v : Str) : List Str := if v ∈ σ then σ else σ ++ [v]
def uniq (xs : List Str) : List Str := xs.foldl stp []
theorem stp_any (σ : List Str) (v k : Str) : (stp σ v).any (· == k) = (σ.any (· == k) || decide (k = v)) := by
  unfold stp
  by_cases h : v ∈ σ
  · rw [if_pos h]
    by_cases e : k = v
    · subst e
      have : σ.any (· == k) = true := List.any_eq_true.mpr ⟨k, h, beq_self_eq_true k⟩
      rw [this]; rfl
    · rw [decide_eq_false e, Bool.or_false]
  · rw [if_neg h, List.any_append]
    congr 1
    simp only [List.any_cons, List.any_nil, Bool.or_false]
    by_cases e : k = v
    · subst e; simp
    · rw [decide_eq_false e]
      cases q : v == k with
      | false => rfl
      | true => exact absurd (beq_iff_eq.mp q).symm e
theorem stp_len (σ : List Str) (v : Str) : (stp σ v).length = if σ.any (· == v) then σ.length else σ.length + 1 := by
  have hm : (σ.any (· == v) = true) ↔ v ∈ σ := by
    rw [List.any_eq_true]
    exact ⟨fun ⟨x, h1, h2⟩ => by rw [← beq_iff_eq.mp h2]; exact h1, fun h => ⟨v, h, beq_self_eq_true v⟩⟩
  unfold stp
  by_cases h : v ∈ σ
  · rw [if_pos h, if_pos (hm.mpr h)]
  · rw [if_neg h, if_neg (fun q => h (hm.mp q)), List.length_append]; rfl
theorem uniq_take {xs : List Str} {i : Nat} (h : i < xs.length) : uniq (xs.take (i + 1)) = stp (uniq (xs.take i)) (xs.getD i Str.empty) := by
  unfold uniq
  rw [List.take_succ, List.foldl_append, List.getElem?_eq_getElem h, List.getD_eq_getElem?_getD, List.getElem?_eq_getElem h]
  rfl
theorem stp_le (σ : List Str) (v : Str) : (stp σ v).length ≤ σ.length + 1 := by
  unfold stp
  split
  · omega
  · simp
theorem foldl_le : ∀ (xs σ : List Str), (xs.foldl stp σ).length ≤ σ.length + xs.length
  | [], σ => by simp
  | x :: xs, σ => by
    have h1 := foldl_le xs (stp σ x)
    have h2 := stp_le σ x
    simp only [List.foldl_cons, List.length_cons]
    omega
theorem uniq_le (xs : List Str) : (uniq xs).length ≤ xs.length := by
  have := foldl_le xs []
  simpa [uniq] using this
section
variable {prog : Program} {w : World} {A : Around} {R : Result → Shared → Prop} {I : Addr} {fp wr : List Addr} {G : Array GenState → Array GenState → Prop} {n : Nat} {P : Nat → Value → Prop} {St : Nat → Shared → Prop}
theorem set_loop (Wk : WalksS prog w A.in1 I fp wr G n P St) (S : Addr) (out : S ∉ fp) (xs : List Str) (hn : xs.length = n) (few : n + 1 < scanBound) (val : ∀ i v, P i v → ∃ t, v = .str (xs.getD i Str.empty) t) :
    ∀ (m i : Nat) (s : Shared), n - i = m → i ≤ n → St i s → s.heap.SetOf (strKind prog w) S (fun k => (uniq (xs.take i)).any (· == k)) (uniq (xs.take i)).length →
      (∀ s', Moved (S :: wr) G s s' → s'.heap.SetOf (strKind prog w) S (fun k => (uniq xs).any (· == k)) (uniq xs).length → R (.ok (.ret .none)) s') →
      codeAny (model prog w) A (.builtin "set.update.loop" ⟨[.ref S, .ref I], []⟩) R s := by
  have notW : S ∉ wr := fun h => out (Wk.sub _ h)
  have more : ∀ b ∈ wr, b ∈ S :: wr := fun b hb => .tail _ hb
  have keeps : ∀ {s s' : Shared} {g : Str → Bool} {c : Nat}, (∀ o, s.heap.get? S = some o → s'.heap.get? S = some o) → s.heap.SetOf (strKind prog w) S g c → s'.heap.SetOf (strKind prog w) S g c := fun k h => by
    obtain ⟨o, es, ep, t, ho, rest⟩ := h
    exact ⟨o, es, ep, t, k _ ho, rest⟩
  intro m
  induction m with
  | zero =>
    intro i s e1 e2 st hS fin
    obtain rfl : i = n := by omega
    rw [show xs.take i = xs from List.take_of_length_le (by omega)] at hS
    refine codeAny_builtin F.entry_set_update_loop ?_
    rw [Around.under_plainId F.plain_set_update_loop _]
    refine wpAny_bind (m := pyNext (.ref I)) (Wk.done s _ _ st fun s' hm => ?_)
    exact wpAny_pure (fin s' (hm.mono more) (keeps (hm.heap S · notW) hS))
  | succ m ih =>
    intro i s e1 e2 st hS fin
    have lt : i < n := by omega
    refine codeAny_builtin F.entry_set_update_loop ?_
    rw [Around.under_plainId F.plain_set_update_loop _]
    refine wpAny_bind (m := pyNext (.ref I)) (Wk.item i s _ _ lt st fun v s' hP st' hm => ?_)
    obtain ⟨t, rfl⟩ := val i v hP
    have hS1 := keeps (hm.heap S · notW) hS
    refine wpAny_bind (m := holding [Value.str (xs.getD i Str.empty) t] (setAdd S (.str (xs.getD i Str.empty) t))) (wpAny_holding ?_)
    unfold setAdd
    refine wpAny_holding (wpAny_bind ((strKind prog w).pyHash (k := xs.getD i Str.empty) (strKind_is _ _ _ _) ?_))
    have room : (uniq (xs.take i)).length + 1 < scanBound := by
      have h1 := uniq_le (xs.take i)
      rw [List.length_take] at h1
      omega
    refine wpAny_setAddHashed_of (knd := strKind prog w) (s := { s' with toks := s'.toks + 1 }) (strKind_is _ _ _ _) rfl hS1 room fun h' hsb hS2 => ?_
    have hS3 : h'.SetOf (strKind prog w) S (fun k => (uniq (xs.take (i + 1))).any (· == k)) (uniq (xs.take (i + 1))).length :=
      SetOf_congr hS2 (fun k => by rw [uniq_take (by omega), stp_any]) (by rw [uniq_take (by omega), stp_len])
    have still : ∀ b, b ≠ S → ∀ o, s'.heap.get? b = some o → h'.get? b = some o := fun b nb o e => (hsb.2 b nb).symm ▸ e
    refine wpAny_pure ⟨plainId_quiet F.plain_set_update_loop _, ih (i + 1) _ (by omega) lt (Wk.frame _ s' _ _ st' (Nat.le_succ _) fun b hb o e => still b (fun q => out (q ▸ hb)) o e) hS3 fun s2 hm2 hS4 => ?_⟩
    exact fin s2 (Moved.trans Wk.gtrans ((hm.mono more).then_heap (Nat.le_succ _) fun b o hb e => still b (fun q => hb (q ▸ List.mem_cons_self)) o e) hm2) hS4
end
section
variable {prog : Program} {w : World} {A : Around} {E : Value → Shared → Prop} {s : Shared}
abbrev newSet (led : Bool) : Obj := { cls := .type "set", dict := none, data := .set #[] 0 (.fresh 0 0 led) }
theorem set_of_list {l : Addr} {its : Array Value} {xs : List Str} {Q : Value → Shared → Prop} (calm : A.handled = none) (hl : s.heap.IsList l its) (ht : StrsAre its.toList xs) (few : xs.length + 1 < scanBound)
    (h : ∀ (h' : Heap) (tk : Nat), h'.SetOf (strKind prog w) s.heap.objs.size (fun k => (uniq xs).any (· == k)) (uniq xs).length → (∀ b o, b < s.heap.objs.size → s.heap.get? b = some o → h'.get? b = some o) → Q (.ref s.heap.objs.size) { s with heap := h', toks := tk }) :
    wpAny (model prog w) A (call (.type "set") [.ref l]) Q E s := by
  obtain ⟨c, tl, hmro⟩ := PySem.F.called_set.mro
  have m1 := PySem.F.called_set.made
  have m2 := PySem.F.called_set.sub
  have m3 := PySem.F.called_set.notType
  have m4 := PySem.F.called_set.canCreate
  have m5 := PySem.F.typeCall_set_1 (.ref l)
  refine wpAny_call (codeAny_of_tree ?_)
  refine (show wpAny _ _ (callAny (Value.type "set") _) _ _ s from ?_)
  have quiet := Code.quiet_builtin (id := "type.__call__") ⟨[.type "set", .ref l], []⟩ (by decide +kernel)
  refine wpAny_pure ⟨quiet, codeAny_builtin PySem.F.entry_type_call ?_⟩
  rw [Around.under_plain (weight_type_call_type "set" [.ref l] []) rfl]
  repeat (any_goals (first | assumption | wp_step))
  have fresh : ∀ led : Bool, (s.heap.push (newSet led)).get? s.heap.objs.size = some (newSet led) := fun led => Heap.get?_push_size _ rfl
  refine codeAny_mono (code_set_new_1 (.ref l) (E := E) (Q₁ := fun ob s1 => ∃ led : Bool, ob = .ref s.heap.objs.size ∧ s1 = { s with heap := s.heap.push (newSet led) }) fun led => ⟨led, rfl, rfl⟩) fun r s1 hr => ?_
  rcases r with er | fl
  · exact hr
  cases fl with
  | ret ob =>
    obtain ⟨led, rfl, rfl⟩ := hr
    have n1 : Shared.TypeIs { s with heap := s.heap.push (newSet led) } (.ref s.heap.objs.size) "set" := ⟨_, fresh led, rfl⟩
    have n2 := PySem.F.called_set.init.lookup
    have n3 := PySem.F.called_set.init.bind (.ref s.heap.objs.size)
    repeat (any_goals (first | assumption | wp_step))
    let Done : Value → Shared → Prop := fun r s2 => r = .none ∧ ∃ h' tk, s2 = { s with heap := h', toks := tk } ∧ h'.SetOf (strKind prog w) s.heap.objs.size (fun k => (uniq xs).any (· == k)) (uniq xs).length ∧
      (∀ b o, b < s.heap.objs.size → s.heap.get? b = some o → h'.get? b = some o)
    refine codeAny_mono (codeAny_call_builtin (R := wants Done E) PySem.F.called_set.init.plain PySem.F.entry_set_init (check_set_init_1 n1 ?_)) fun r2 s2 hr2 => ?_
    · obtain ⟨⟨oc, od, odt, osl⟩, ho, hc, nl, hd⟩ := hl
      dsimp only at hc hd
      subst hc hd
      have low : l < s.heap.objs.size := Heap.lt_size ho
      have ho1 : (s.heap.push (newSet led)).get? l = some { cls := .type "list", dict := od, data := .seq its nl, slots := osl } := Heap.get?_push_of_some _ ho
      have il : (s.heap.push (newSet led)).IsList l its := ⟨_, ho1, rfl, nl, rfl⟩
      have q1 := PySem.F.sub_list_set
      have q2 := PySem.F.sub_list_frozenset
      have q3 : (Value.type "list" == Value.type "dict") = false := by decide
      unfold Builtin.«set.__init__» noKeywords Builtin.Frozenset.updateFrom
      generalize hPI : pyIter = PI
      wp_walk
      subst hPI
      refine wpAny_pyIter_list il (wpAny_bind (wpAny_runValue ?_))
      have calm3 : A.in1.in1.in1.handled = none := by simp [calm]
      have sz1 : (s.heap.push (newSet led)).objs.size = s.heap.objs.size + 1 := Heap.size_push ..
      have neI : l ≠ (s.heap.push (newSet led)).objs.size := by rw [sz1]; exact Nat.ne_of_lt (Nat.lt_succ_of_lt low)
      have outS : s.heap.objs.size ∉ [(s.heap.push (newSet led)).objs.size, l] := by
        rw [sz1]
        intro z
        rcases List.mem_cons.mp z with e | e
        · exact absurd e (Nat.ne_of_lt (Nat.lt_succ_self _))
        · exact absurd (List.mem_singleton.mp e) (Nat.ne_of_gt low)
      have len : xs.length = its.size := (StrsAre.len_eq ht).symm.trans Array.length_toList
      have vals : ∀ (i : Nat) (v : Value), its[i]? = some v → ∃ t, v = .str (xs.getD i Str.empty) t := fun i v hv => SS.strs_at ht i v ((Array.getElem?_toList ..).trans hv)
      refine set_loop (Walks.list calm3 _ l neI its).toS s.heap.objs.size outS xs len (by rw [← len]; exact few) vals (its.size - 0) 0 _ (by omega) (Nat.zero_le _) ⟨⟨_, Heap.get?_push_size _ rfl, rfl, rfl⟩, il.push _⟩ ?_ ?_
      · have at2 : ((s.heap.push (newSet led)).push { cls := .type "list_iterator", data := .fields #[.ref l, .int 0 0] }).get? s.heap.objs.size = some (newSet led) := Heap.get?_push_of_some _ (fresh led)
        exact SetOf_congr ((setObjOf_fresh (knd := strKind prog w) led).setOf at2 (by unfold scanBound; omega)) (fun _ => rfl) rfl
      · rintro ⟨h', g', d', tk', os'⟩ hm hS
        obtain rfl : g' = s.gens := hm.gens
        obtain rfl : d' = s.drawn := hm.drawn
        obtain rfl : os' = s.os := hm.os
        refine (show wpAny _ _ (pure ()) _ _ _ from wpAny_pure ?_)
        refine wpAny_pure ⟨rfl, h', tk', rfl, hS, fun b o hb e => ?_⟩
        refine hm.heap b o ?_ (Heap.get?_push_of_some _ (Heap.get?_push_of_some _ e))
        rw [sz1]
        intro z
        rcases List.mem_cons.mp z with e | e
        · exact absurd e (Nat.ne_of_lt hb)
        · exact absurd (List.mem_singleton.mp e) (Nat.ne_of_lt (Nat.lt_succ_of_lt hb))
    · rcases r2 with er | fl2
      · exact hr2
      cases fl2 with
      | ret r =>
        obtain ⟨rfl, h', tk, rfl, hS, keep⟩ := hr2
        repeat (any_goals (first | assumption | wp_step))
        exact h _ _ hS keep
      | _ => exact hr2.elim
  | _ => exact hr.elim
end
section
variable {X : Cx} {C : CC} {W : WX} {a : Expr} {ma : E D} {p p2 q pos : Pos} {k : Nat}
def dLenSet : P1
  | .lst ds, Q => ∃ ys, strsOf ds = some ys ∧ ys.length < 4000 ∧ Q (.int (uniq ys).length)
  | _, _ => False
theorem xe_lenSet (kx : Kx X C W k) (hg : Gl X "len") (hm : X.mg "len" = none) (hg2 : Gl X "set") (hm2 : X.mg "set" = none) (ha : XP X C W a ma) (h1 : S1 X a := by rfl) :
    XE X C W (.Call (.Name "len" p) [.Call (.Name "set" p2) [a] [] q] [] pos) (eb ma fun d => eP (dLenSet d)) := by
  obtain ⟨t, t1, t2⟩ := ha.ex
  refine ⟨fun σ H Q => t σ H fun x H1 => ∃ (l : Addr) (ys : List Str), x = V.ref l ∧ SqL X.K H1 l (ys.map V.str) ∧ ys.length < 4000 ∧ Q (.int (uniq ys).length) H1, ⟨fun pins s σ H Q I h => ?_⟩, ?_⟩
  · refine Call_ (ld_blt I hg hm boot_len (callWith_builtin1 (args_cons ?_ rfl) rfl rfl))
    refine Call_ (ld_blt I hg2 hm2 boot_set (callWith_type1 (args_cons (thn (t1.run pins s σ H _ I h) fun v s1 ⟨x, H1, I1, r1, q1⟩ => args_nil ?_) h1) h1 rfl))
    obtain ⟨l, ys, rfl, hs, few, q1⟩ := q1
    obtain rfl : v = Value.ref l := r1
    obtain ⟨its, r, pl, hz⟩ := I1.list hs
    refine set_of_list (I1.ok.hd kx.calm) pl.isList (xs := ys) (by simpa using strsAre_of r) (by unfold scanBound; omega) fun h' tk hS keep => args_nil ?_
    obtain ⟨o, es, ep, tb, ho, hex, hd, _, _, _, hf, hn⟩ := hS
    have I2 : Inv X pins σ H1 { s1 with heap := h', toks := tk } := I1.kept fun b o e => keep b o (Heap.lt_size e) e
    have small : (es.size : Int) < 2 ^ 63 := by
      have := uniq_le ys
      omega
    refine call_len_set ho hex hd hf small ⟨.int (uniq ys).length, H1, I2.tok _, ⟨_, by rw [hn]⟩, q1⟩
  · refine den_un (r := fun x H1 Q => ∃ (l : Addr) (ys : List Str), x = V.ref l ∧ SqL X.K H1 l (ys.map V.str) ∧ ys.length < 4000 ∧ Q (.int (uniq ys).length) H1) back_R t2 (op1_flat fun F H y dy Q Qd s ry hp hq => ?_)
    unfold dLenSet at hp
    split at hp
    · obtain ⟨ys, e1, few, w⟩ := hp
      obtain ⟨b, xs, rfl, e2, rl, _⟩ := RT.lst s ry
      obtain rfl := RpL.strs rl e1
      exact ⟨b, ys, rfl, .inl (.inl e2), few, hq _ _ w (.int _)⟩
    · exact False.elim hp
end
end DL

namespace DL
open PySem PySem.Spec PyProof.Rows L2

/-! ## dicts by keys that are texts or numbers -/
def keyD : D → Option Key
  | .int i => some (.inl i)
  | .str y => some (.inr y)
  | _ => none
def keyE : Key → D
  | .inl i => .int i
  | .inr y => .str y
/-- the look-up -/
def dlk : List Key → List D → Key → Option D
  | k :: ks, d :: ds, y => if k = y then some d else dlk ks ds y
  | _, _, _ => none
/-- a store: in its place, or at the end -/
def dputL (ks : List Key) (ds : List D) (k : Key) (y : D) : List Key × List D :=
  if (ks.any fun j => decide (j = k)) = true then (ks, List.zipWith (fun j d => if j = k then y else d) ks ds) else (ks ++ [k], ds ++ [y])
def dGet : P2
  | .dic ks ds, y, Q => ∃ k, keyD y = some k ∧ ∃ d, dlk ks ds k = some d ∧ Q d
  | _, _, _ => False
def dHas (b : Bool) : P2
  | y, .dic ks ds, Q => ∃ k, keyD y = some k ∧ Q (.bl (b != (dlk ks ds k).isSome))
  | _, _, _ => False
section
variable {K : PySem.W.Frag} {mg : Str → Option Value} {pa : Option Addr} {F : Hp}
theorem keyD_rel {C : CC} {H : Hp} {v : V} {y : D} {k : Key} (r : RT C F H v y) (e : keyD y = some k) : v = kV k := by
  cases y <;> first | (cases e) | skip
  · exact r.int
  · exact r.str
theorem keyE_rel (k : Key) : Rp K mg pa F (kV k) (keyE k) := by
  cases k with
  | inl i => exact .int i
  | inr y => exact .str y
theorem valV_dlk : ∀ {ks : List Key} {ds : List D} {xs : List V} {k : Key}, RpL K mg pa F xs ds → ks.length = xs.length → (∀ d, dlk ks ds k = some d → ∃ v, valV (ks.zip xs) k = some v ∧ Rp K mg pa F v d) ∧ (dlk ks ds k = none → valV (ks.zip xs) k = none)
  | [], _, _, _, h, l => ⟨fun d e => (by simp [dlk] at e), fun _ => rfl⟩
  | j :: ks, [], _, _, h, l => by cases h; simp at l
  | j :: ks, d :: ds, _, k, h, l => by
    cases h with
    | @cons v vs _ _ a b =>
      have l' : ks.length = vs.length := by simpa using l
      by_cases e : j = k
      · refine ⟨fun d' q => ?_, fun q => ?_⟩
        · unfold dlk at q; rw [if_pos e] at q; cases q
          exact ⟨v, valV_pos (p := (j, v)) e, a⟩
        · unfold dlk at q; rw [if_pos e] at q; cases q
      · have ih := valV_dlk (k := k) b l'
        have e2 : valV ((j :: ks).zip (v :: vs)) k = valV (ks.zip vs) k := valV_neg (p := (j, v)) e
        refine ⟨fun d' q => ?_, fun q => ?_⟩
        · unfold dlk at q; rw [if_neg e] at q
          rw [e2]
          exact ih.1 d' q
        · unfold dlk at q; rw [if_neg e] at q
          rw [e2]
          exact ih.2 q
theorem valV_is {ks : List Key} {ds : List D} {xs : List V} {k : Key} (r : RpL K mg pa F xs ds) (l : ks.length = xs.length) : (valV (ks.zip xs) k).isSome = (dlk ks ds k).isSome := by
  cases e3 : dlk ks ds k with
  | none => rw [(valV_dlk (k := k) r l).2 e3]; rfl
  | some d =>
    obtain ⟨v, e4, _⟩ := (valV_dlk (k := k) r l).1 d e3
    rw [e4]; rfl
theorem zip_any {ks : List Key} {xs : List V} (k : Key) (l : ks.length = xs.length) : ((ks.zip xs).any fun kv => decide (kv.1 = k)) = ks.any fun j => decide (j = k) := by
  induction ks generalizing xs with
  | nil => rfl
  | cons j ks ih =>
    cases xs with
    | nil => simp at l
    | cons x xs =>
      simp only [List.zip_cons_cons, List.any_cons]
      rw [ih (by simpa using l)]
theorem zip_map {ks : List Key} {xs : List V} (k : Key) (y : V) (l : ks.length = xs.length) : ((ks.zip xs).map fun kv => if kv.1 = k then (kv.1, y) else kv) = ks.zip (List.zipWith (fun j d => if j = k then y else d) ks xs) := by
  induction ks generalizing xs with
  | nil => rfl
  | cons j ks ih =>
    cases xs with
    | nil => simp at l
    | cons x xs =>
      simp only [List.zip_cons_cons, List.map_cons, List.zipWith_cons_cons]
      rw [ih (by simpa using l)]
      by_cases e : j = k
      · simp [e]
      · simp [e]
theorem RpL.zw {ks : List Key} {k : Key} {v : V} {y : D} (r : Rp K mg pa F v y) : ∀ {ks : List Key} {ds : List D} {xs : List V}, RpL K mg pa F xs ds → RpL K mg pa F (List.zipWith (fun j d => if j = k then v else d) ks xs) (List.zipWith (fun j d => if j = k then y else d) ks ds)
  | [], _, _, h => by cases h <;> exact .nil
  | j :: ks, _, _, h => by
    cases h with
    | nil => exact .nil
    | cons a b =>
      rw [List.zipWith_cons_cons, List.zipWith_cons_cons]
      refine .cons ?_ (RpL.zw (ks := ks) r b)
      by_cases e : j = k
      · rw [if_pos e, if_pos e]; exact r
      · rw [if_neg e, if_neg e]; exact a
/-- a store, in the heap -/
theorem put_rel {ks : List Key} {ds : List D} {xs : List V} {k : Key} {v : V} {y : D} (h : RpL K mg pa F xs ds) (l : ks.length = xs.length) (r : Rp K mg pa F v y) :
    ∃ xs', putK (ks.zip xs) k v = (dputL ks ds k y).1.zip xs' ∧ (dputL ks ds k y).1.length = xs'.length ∧ RpL K mg pa F xs' (dputL ks ds k y).2 := by
  unfold putK dputL
  rw [zip_any k l]
  by_cases e : (ks.any fun j => decide (j = k)) = true
  · rw [if_pos e, if_pos e]
    refine ⟨_, zip_map k v l, ?_, RpL.zw (ks := ks) r h⟩
    show ks.length = _
    rw [List.length_zipWith]; omega
  · rw [if_neg e, if_neg e]
    refine ⟨xs ++ [v], ?_, ?_, RpL.app1 h r⟩
    · show _ = (ks ++ [k]).zip (xs ++ [v])
      rw [List.zip_append l]
      rfl
    · simp [l]
end
/-- a dict that is read -/
theorem RT.dic {C : CC} {F H : Hp} {v : V} {ks : List Key} {ds : List D} (s : Sub F H) (h : RT C F H v (.dic ks ds)) : ∃ a xs, v = .ref a ∧ Rd H a (.dK (ks.zip xs)) ∧ ks.length = xs.length ∧ C.RL F xs ds := by
  rcases h with h | ⟨a, o, e1, e2, e3, xs, e4, e5, e6⟩
  · cases h with
    | dic q l r => exact ⟨_, _, rfl, rdSub s q ngD, l, r⟩
  · subst e4
    exact ⟨a, xs, e1, .inl e2, e5, e6⟩
section
variable {X : Cx} {C : CC} {W : WX} {k i : Nat} {x : Str} {pos p1 p2 p3 p4 : Pos} {a b : Expr} {ma mb : E D}
theorem o_dget : Op2 C W (fun x y H Q => ∃ a v, x = .ref a ∧ DGet H a y (some v) ∧ Q v H) (fun d y => eP (dGet d y)) (kR C) := op2_flat fun F H x y dx dy Q Qd s rx ry hp hq => by
  unfold dGet at hp
  split at hp
  · obtain ⟨k, e1, d, e2, q⟩ := hp
    obtain ⟨o, xs, rfl, rd, l, r⟩ := RT.dic s rx
    obtain ⟨v, e3, rv⟩ := (valV_dlk (k := k) r l).1 d e2
    exact ⟨o, v, rfl, .inl ⟨_, k, rd, keyD_rel ry e1, e3.symm⟩, hq _ _ q rv⟩
  · exact False.elim hp
theorem o_dhas (t : Bool) : Op2 C W (fun y x H Q => ∃ a o, x = .ref a ∧ DGet H a y o ∧ Q (.bl (t != o.isSome)) H) (fun y d => eP (dHas t y d)) (kR C) := op2_flat fun F H y x dy dx Q Qd s ry rx hp hq => by
  unfold dHas at hp
  split at hp
  · obtain ⟨k, e1, q⟩ := hp
    obtain ⟨o, xs, rfl, rd, l, r⟩ := RT.dic s rx
    refine ⟨o, _, rfl, .inl ⟨_, k, rd, keyD_rel ry e1, rfl⟩, ?_⟩
    rw [valV_is (k := k) r l]
    exact hq _ _ q (.bl _)
  · exact False.elim hp
theorem xe_dget (kx : Kx X C W k) (ha : XP X C W a ma) (hb : XP X C W b mb) (hs : NoSl b) : XE X C W (.Subscript a b pos) (eb ma fun d => eb mb fun y => eP (dGet d y)) := by
  obtain ⟨ta, a1, a2⟩ := ha.ex
  obtain ⟨tb, b1, b2⟩ := hb.ex
  exact ⟨_, pe_dget (by have := kx.hu; omega) a1 b1 hs, den_op back_R a2 b2 o_dget⟩
theorem xe_dhas (kx : Kx X C W k) (ha : XP X C W a ma) (hb : XP X C W b mb) (hm : behindInMarks .In b = false := by rfl) : XE X C W (.Compare a [.In] [b] pos) (eb ma fun y => eb mb fun d => eP (dHas false y d)) := by
  obtain ⟨ta, a1, a2⟩ := ha.ex
  obtain ⟨tb, b1, b2⟩ := hb.ex
  refine ⟨_, pe_cmp (pc_din (by have := kx.hu; omega) a1 b1) hm, ?_⟩
  have := den_op (W := W) back_R a2 b2 (o_dhas (C := C) false)
  simp only [Bool.false_bne] at this
  exact this
theorem den_notIn {t u : TE} (t2 : Den C W t ma (kT C)) (u2 : Den C W u mb (kT C)) : Den C W (tDNotIn t u) (eb ma fun y => eb mb fun d => eP (dHas true y d)) (kR C) := by
  have := den_op (W := W) back_R t2 u2 (o_dhas (C := C) true)
  simp only [Bool.true_bne] at this
  exact this
theorem xt_dnot (kx : Kx X C W k) (ha : XP X C W a ma) (hb : XP X C W b mb) (hm : behindInMarks .NotIn b = false := by rfl) : XT X C W (.Compare a [.NotIn] [b] pos) (eT (eb ma fun y => eb mb fun d => eP (dHas true y d))) := by
  obtain ⟨ta, a1, a2⟩ := ha.ex
  obtain ⟨tb, b1, b2⟩ := hb.ex
  exact ⟨_, pt_cmp (pc_dnotin (by have := kx.hu; omega) a1 b1) hm, den_test (den_notIn a2 b2)⟩
theorem xt_dhas (kx : Kx X C W k) (ha : XP X C W a ma) (hb : XP X C W b mb) (hm : behindInMarks .In b = false := by rfl) : XT X C W (.Compare a [.In] [b] pos) (eT (eb ma fun y => eb mb fun d => eP (dHas false y d))) := by
  obtain ⟨ta, a1, a2⟩ := ha.ex
  obtain ⟨tb, b1, b2⟩ := hb.ex
  refine ⟨_, pt_cmp (pc_din (by have := kx.hu; omega) a1 b1) hm, den_test ?_⟩
  have := den_op (W := W) back_R a2 b2 (o_dhas (C := C) false)
  simp only [Bool.false_bne] at this
  exact this
end
section
variable (d y : D) (ks : List Key) (ds : List D) (s : Str) (j : Int) (Q : D → Prop) (b : Bool)
@[simp] theorem dGet_s : dGet (.dic ks ds) (.str s) Q = ∃ d, dlk ks ds (.inr s) = some d ∧ Q d := propext ⟨fun ⟨k, e, h⟩ => by cases e; exact h, fun h => ⟨_, rfl, h⟩⟩
@[simp] theorem dGet_i : dGet (.dic ks ds) (.int j) Q = ∃ d, dlk ks ds (.inl j) = some d ∧ Q d := propext ⟨fun ⟨k, e, h⟩ => by cases e; exact h, fun h => ⟨_, rfl, h⟩⟩
@[simp] theorem dHas_s : dHas b (.str s) (.dic ks ds) Q = Q (.bl (b != (dlk ks ds (.inr s)).isSome)) := propext ⟨fun ⟨k, e, h⟩ => by cases e; exact h, fun h => ⟨_, rfl, h⟩⟩
@[simp] theorem dHas_i : dHas b (.int j) (.dic ks ds) Q = Q (.bl (b != (dlk ks ds (.inl j)).isSome)) := propext ⟨fun ⟨k, e, h⟩ => by cases e; exact h, fun h => ⟨_, rfl, h⟩⟩
end
end DL

namespace DL
open PySem PySem.Spec PyProof.Rows L2

/-! ## things that change: lists and dicts by their number -/
/-- a changing thing, as it is now -/
def dr (z : Zs) : D → D
  | .mc k => match z.cs[k]? with
    | some (.lst ds) => .lst ds
    | some (.dic ks ds) => .dic ks ds
    | none => .mc k
  | d => d
theorem dr_L {z : Zs} {k : Nat} {ds : List D} (h : z.cs[k]? = some (.lst ds)) : dr z (.mc k) = .lst ds := by
  show (match z.cs[k]? with
    | some (MC.lst ds) => D.lst ds
    | some (MC.dic ks ds) => D.dic ks ds
    | none => D.mc k) = _
  rw [h]
theorem dr_D {z : Zs} {k : Nat} {ks : List Key} {ds : List D} (h : z.cs[k]? = some (.dic ks ds)) : dr z (.mc k) = .dic ks ds := by
  show (match z.cs[k]? with
    | some (MC.lst ds) => D.lst ds
    | some (MC.dic ks ds) => D.dic ks ds
    | none => D.mc k) = _
  rw [h]
section
variable (z : Zs) (i : Int) (b : Bool) (s : Str) (ds : List D) (ks : List Key) (c : Str) (ns : List Str)
@[simp] theorem dr_1 : dr z (.int i) = .int i := rfl
@[simp] theorem dr_2 : dr z (.bl b) = .bl b := rfl
@[simp] theorem dr_3 : dr z (.str s) = .str s := rfl
@[simp] theorem dr_4 : dr z (.lst ds) = .lst ds := rfl
@[simp] theorem dr_5 : dr z (.tup ds) = .tup ds := rfl
@[simp] theorem dr_6 : dr z (.dic ks ds) = .dic ks ds := rfl
@[simp] theorem dr_7 : dr z .non = .non := rfl
@[simp] theorem dr_8 : dr z (.ins c ns ds) = .ins c ns ds := rfl
end
section
variable {C : CC} {σ : L2.St} {ρ : Rho} {F F' H H' : Hp} {z z' : Zs} {v : V} {d : D} {p : Addr} {o : HO} {c : MC}
theorem RK.dr (S : StOk C σ ρ F H z) (r : RK C F H v d) : RT C F H v (dr z d) := by
  cases d with
  | mc k =>
    rcases r with r | ⟨_, _, _, _, e, _⟩
    · cases r with
      | @mc a _ e =>
        obtain ⟨o, c, e1, e2, e3⟩ := S.cs.get e
        have npa : some a ≠ C.pa := fun w => by rw [(S.pz a w.symm).1] at e; cases e
        cases c with
        | lst ds =>
          obtain ⟨xs, rfl, r⟩ := e3
          rw [dr_L e2]
          exact .inr ⟨a, _, rfl, e1, npa, xs, rfl, r⟩
        | dic ks ds =>
          obtain ⟨xs, rfl, l, r⟩ := e3
          rw [dr_D e2]
          exact .inr ⟨a, _, rfl, e1, npa, xs, rfl, l, r⟩
    · cases e
  | _ => exact RK.now r
/-- a list of one's own becomes a thing that changes -/
theorem StOk.mark (S : StOk C σ ρ F H z) (hp : H p = some o) (hf : F p = none) (h0 : C.H0 p = none) (np : some p ≠ C.pa) (no : ∀ (i : Nat) xs, ρ[i]? = some (.own xs) → σ[i]? ≠ some (some (.ref p))) (nh : p ∉ C.hid) (hc : CO C.K C.mg C.pa F o c) :
    StOk C σ ρ (upd F p (gh z.cs.length)) H { z with cs := z.cs ++ [c] } := by
  have sub : Sub (upd F p (gh z.cs.length)) H := fun b u e n => by
    by_cases q : b = p
    · subst q; rw [upd_same] at e; cases e; exact absurd rfl (n _)
    · rw [upd_ne q] at e; exact S.sub _ _ e n
  have hk : Keep C.pa C.F0 (upd F p (gh z.cs.length)) C.H0 H := ⟨S.h0.ke, fun b k e => by
    by_cases q : b = p
    · rw [q]; exact .inr h0
    · rw [upd_ne q] at e; exact S.h0.gn b k e, S.h0.dm⟩
  have hcs : CsOk C.K C.mg C.pa (upd F p (gh z.cs.length)) H (z.cs ++ [c]) := by
    have h1 := CsOk.newC (o := o) (c := c) (p := p) (H := fun b => if b = p then none else H b) (S.cs.grow (Same.refl F) (fun _ _ e => e) fun a k u e1 e2 => by
      have ne : a ≠ p := ne_of_none e1 hf
      show (if a = p then none else H a) = _
      rw [if_neg ne]; exact e2) (by show (if p = p then none else H p) = none; rw [if_pos rfl]) hf hc
    have e : upd (fun b => if b = p then none else H b) p o = H := by
      funext b
      by_cases q : b = p
      · rw [q, upd_same, hp]
      · rw [upd_ne q, if_neg q]
    rw [e] at h1
    exact h1
  refine ⟨sub, S.f0.trans (Same.new hf), hk, fun b h1 h2 => ?_, S.len, fun i v s e1 e2 => ?_, S.apart, fun q e => ?_, fun b hb => ?_, hcs⟩
  · by_cases e : b = p
    · rw [e]; exact h0
    · rw [upd_ne e] at h1; exact S.nw b h1 h2
  · have h := S.env i v s e1 e2
    cases s with
    | no => cases v <;> trivial
    | fr d =>
      cases v with
      | none => exact h.elim
      | some v => exact Rp.mono (Same.new hf) h
    | own ds =>
      cases v with
      | none => exact h.elim
      | some v =>
        obtain ⟨a, xs, rfl, ha, hf', h0', np', r, nh'⟩ := h
        have ne : a ≠ p := fun e => no i ds e2 (by rw [e1, e])
        exact ⟨a, xs, rfl, ha, by rw [upd_ne ne]; exact hf', h0', np', RpL.mono (Same.new hf) r, nh'⟩
  · obtain ⟨h1, r⟩ := S.pz q e
    have ne : q ≠ p := fun z => np (by rw [← z, e])
    exact ⟨by rw [upd_ne ne]; exact h1, r⟩
  · obtain ⟨h1, r⟩ := S.hd b hb
    have ne : b ≠ p := fun z => nh (by rw [← z]; exact hb)
    exact ⟨by rw [upd_ne ne]; exact h1, r⟩
theorem keep_mark {pa : Option Addr} {k : Nat} (h : Keep pa F F' H H') (hp : H p = none) : Keep pa F (upd F' p (gh k)) H H' := ⟨h.ke, fun b j e => by
  by_cases q : b = p
  · rw [q]; exact .inr hp
  · rw [upd_ne q] at e; exact h.gn b j e, h.dm⟩
end
section
variable {X : Cx} {C : CC} {W : WX} {e a b : Expr} {es : List Expr} {m ma mb : E D} {mo : E (List D)} {pos p p1 p2 p3 : Pos} {k : Nat} {x : Str}
def fNewL (ds : List D) : E D := fun ρ Q _ z => Q (.mc z.cs.length) ρ { z with cs := z.cs ++ [.lst ds] }
def fNewD (ks : List Key) (ds : List D) : E D := fun ρ Q _ z => Q (.mc z.cs.length) ρ { z with cs := z.cs ++ [.dic ks ds] }
/-- a new list that will change -/
theorem xe_cellL (h : XO X C W e mo) : XE X C W e (eb mo fNewL) := by
  obtain ⟨t, h1, h2⟩ := h.ex
  refine ⟨t, h1, fun σ ρ F H z Qd Xd Q S hm hq hx => h2 σ ρ F H z _ Xd Q S hm (fun ds ρ' z' b F' H' q S' ff hk ol ⟨a, xs, e1, e2, e3, e4, e5, e6⟩ => ?_) hx⟩
  subst e1
  exact hq _ ρ' _ _ _ H' q (S'.mark (c := .lst ds) e2 e3 (S.h0None e4 e5) e5 (S.notOwn e4 ol) (S.notHid e4) ⟨xs, rfl, e6⟩) (ff.trans (Same.new e3)) (keep_mark hk e4) ol (.mc upd_same)
/-- {} -/
theorem xe_cellD0 : XE X C W (.Dict [] [] pos) (fNewD [] []) := by
  refine ⟨_, pe_dnewK, fun σ ρ F H z Qd Xd Q S hm hq hx => fun q hn => ?_⟩
  exact hq _ ρ _ _ _ _ hm (S.newC (c := .dic [] []) hn ⟨[], rfl, rfl, .nil⟩) (Same.new (S.free hn)) (Keep.newF hn) Ole.refl (.mc upd_same)

/-! ### reading -/
theorem den_opZ {α : Type} {ta tb : TE} {r : R2} {f : D → D → E α} {R : Hp → Hp → Hp → V → α → Prop} (hB : Back C R) (ha : Den C W ta ma (kT C)) (hb : Den C W tb mb (kT C)) (ho : Op2 C W r f R) :
    Den C W (tOp r ta tb) (eb ma fun x => eb mb fun y => fun ρ Q X z => f (dr z x) (dr z y) ρ Q X z) R :=
  Den.bind (u := fun x σ H Q => tb σ H fun y H2 => r x y H2 Q) hB ha fun H0 σ ρ F H z a x Qd Xd Q S ra hm hq hx =>
    hb σ ρ F H z _ Xd _ S hm (fun d ρ2 z2 y F2 H2 q2 S2 ff2 k2 o2 rb => ho σ ρ2 F2 H2 z2 x y _ _ Qd Xd Q S2 ((ra.keep ff2 k2).dr S2) (rb.dr S2) q2
        (fun c ρ' z' d' F' H' q' S' ff' k' o' r' => hq c ρ' z' d' F' H' q' S' (ff2.trans ff') (k2.trans k') (o'.trans o2) (hB _ _ _ _ _ _ k2.dm r'))
        (fun e ρ' z' cls dd F' H' q' S' ff' r' => hx e ρ' z' cls dd F' H' q' S' (ff2.trans ff') r'))
      hx
theorem den_unZ {α β : Type} {ta : TE} {r : V → Hp → (β → Hp → Prop) → Prop} {f : D → E α} {R : Hp → Hp → Hp → β → α → Prop} (hB : Back C R) (ha : Den C W ta ma (kT C)) (ho : Op1 C W r f R) :
    Den C W (fun σ H Q => ta σ H fun x H1 => r x H1 Q) (eb ma fun x => fun ρ Q X z => f (dr z x) ρ Q X z) R :=
  Den.bind (u := fun x _ H Q => r x H Q) hB ha fun H0 σ ρ F H z a x Qd Xd Q S ra hm hq hx => ho σ ρ F H z x _ Qd Xd Q S (ra.dr S) hm hq hx
abbrev bZ (f : P2) (ma mb : E D) : E D := eb ma fun x => eb mb fun y => fun ρ Q _ z => f (dr z x) (dr z y) fun d => Q d ρ z
abbrev cZ (ma mb : E D) : E (List D) := eb ma fun x => eb mb fun y => fun ρ Q _ z => dCat (dr z x) (dr z y) fun d => Q d ρ z
abbrev uZ (f : P1) (ma : E D) : E D := eb ma fun x => fun ρ Q _ z => f (dr z x) fun d => Q d ρ z
abbrev lZ (f : D → E (List D)) (ma : E D) : E (List D) := eb ma fun x => fun ρ Q X z => f (dr z x) ρ Q X z
theorem xe_opZ {op : Operator} {r : R2} {f : P2} (h : OpR X (binaryOp op) r) (ho : Op2 C W r (fun x y => eP (f x y)) (kR C)) (ha : XP X C W a ma) (hb : XP X C W b mb) : XE X C W (.BinOp a op b pos) (bZ f ma mb) := by
  obtain ⟨ta, a1, a2⟩ := ha.ex
  obtain ⟨tb, b1, b2⟩ := hb.ex
  exact ⟨_, pe_op h a1 b1, den_opZ back_R a2 b2 ho⟩
theorem xo_catZ (ha : XP X C W a ma) (hb : XP X C W b mb) (hK : X.K = C.K) : XO X C W (.BinOp a .Add b pos) (cZ ma mb) := by
  obtain ⟨ta, a1, a2⟩ := ha.ex
  obtain ⟨tb, b1, b2⟩ := hb.ex
  refine ⟨_, pe_op op_add4 a1 b1, ?_⟩
  rw [hK]
  exact den_opZ back_O a2 b2 o_cat
theorem xe_cmpZ {op : CmpOp} {r : R2} {f : P2} (h : OpR X (compareOp op) r) (ho : Op2 C W r (fun x y => eP (f x y)) (kR C)) (ha : XP X C W a ma) (hb : XP X C W b mb) (hm : behindInMarks op b = false) : XE X C W (.Compare a [op] [b] pos) (bZ f ma mb) := by
  obtain ⟨ta, a1, a2⟩ := ha.ex
  obtain ⟨tb, b1, b2⟩ := hb.ex
  exact ⟨_, pe_cmpR h a1 b1 hm, den_opZ back_R a2 b2 ho⟩
theorem xt_cmpZ {op : CmpOp} {r : R2} {f : P2} (h : OpR X (compareOp op) r) (ho : Op2 C W r (fun x y => eP (f x y)) (kR C)) (ha : XP X C W a ma) (hb : XP X C W b mb) (hm : behindInMarks op b = false) : XT X C W (.Compare a [op] [b] pos) (eT (bZ f ma mb)) := by
  obtain ⟨ta, a1, a2⟩ := ha.ex
  obtain ⟨tb, b1, b2⟩ := hb.ex
  exact ⟨_, pt_cmpR h a1 b1 hm, den_test (den_opZ back_R a2 b2 ho)⟩
theorem xe_ixZ (hK : X.K = C.K) (ha : XP X C W a ma) (hb : XP X C W b mb) (hs : PlainIx b) : XE X C W (.Subscript a b pos) (bZ dIx ma mb) := by
  obtain ⟨ta, a1, a2⟩ := ha.ex
  obtain ⟨tb, b1, b2⟩ := hb.ex
  refine ⟨_, pe_ix ix_seq a1 b1 hs, ?_⟩
  rw [hK]
  exact den_opZ back_R a2 b2 o_ix
theorem xe_dgetZ (kx : Kx X C W k) (ha : XP X C W a ma) (hb : XP X C W b mb) (hs : NoSl b) : XE X C W (.Subscript a b pos) (bZ dGet ma mb) := by
  obtain ⟨ta, a1, a2⟩ := ha.ex
  obtain ⟨tb, b1, b2⟩ := hb.ex
  exact ⟨_, pe_dget (by have := kx.hu; omega) a1 b1 hs, den_opZ back_R a2 b2 o_dget⟩
theorem xe_dhasZ (kx : Kx X C W k) (ha : XP X C W a ma) (hb : XP X C W b mb) (hm : behindInMarks .In b = false := by rfl) : XE X C W (.Compare a [.In] [b] pos) (bZ (dHas false) ma mb) := by
  obtain ⟨ta, a1, a2⟩ := ha.ex
  obtain ⟨tb, b1, b2⟩ := hb.ex
  refine ⟨_, pe_cmp (pc_din (by have := kx.hu; omega) a1 b1) hm, ?_⟩
  have := den_opZ (W := W) back_R a2 b2 (o_dhas (C := C) false)
  simp only [Bool.false_bne] at this
  exact this
theorem xt_dhasZ (kx : Kx X C W k) (ha : XP X C W a ma) (hb : XP X C W b mb) (hm : behindInMarks .In b = false := by rfl) : XT X C W (.Compare a [.In] [b] pos) (eT (bZ (dHas false) ma mb)) := by
  obtain ⟨ta, a1, a2⟩ := ha.ex
  obtain ⟨tb, b1, b2⟩ := hb.ex
  refine ⟨_, pt_cmp (pc_din (by have := kx.hu; omega) a1 b1) hm, den_test ?_⟩
  have := den_opZ (W := W) back_R a2 b2 (o_dhas (C := C) false)
  simp only [Bool.false_bne] at this
  exact this
theorem xt_dnotZ (kx : Kx X C W k) (ha : XP X C W a ma) (hb : XP X C W b mb) (hm : behindInMarks .NotIn b = false := by rfl) : XT X C W (.Compare a [.NotIn] [b] pos) (eT (bZ (dHas true) ma mb)) := by
  obtain ⟨ta, a1, a2⟩ := ha.ex
  obtain ⟨tb, b1, b2⟩ := hb.ex
  refine ⟨_, pt_cmp (pc_dnotin (by have := kx.hu; omega) a1 b1) hm, den_test ?_⟩
  have := den_opZ (W := W) back_R a2 b2 (o_dhas (C := C) true)
  simp only [Bool.true_bne] at this
  exact this
theorem xt_truZ (hk : X.K = C.K) (ha : XP X C W a ma) (he : ∀ whole, isTrue a X.env whole = (do let v ← whole; standAt a.pos; holding [v] (truthy v)) := by intro _; rfl) : XT X C W a (eb ma fun x => fun ρ Q _ z => dTru (dr z x) fun t => Q t ρ z) := by
  obtain ⟨ta, a1, a2⟩ := ha.ex
  refine ⟨_, pt_truth a1 he, ?_⟩
  rw [hk]
  exact den_unZ (r := fun x H (Q : Bool → Hp → Prop) => ∃ k, TruV C.K x H k ∧ Q k H) back_B a2 o_tru
theorem xe_b1Z {id : String} {r : List V → Hp → VK → Prop} {f : D → E D} (hc : CallR X (.builtin id) r) (ho : Op1 C W (fun x H Q => r [x] H Q) f (kR C)) (ha : XP X C W a ma) (hg : Gl X x) (hm : X.mg x = none) (hv : bootBuiltins x = some (.builtin id)) (hn : x ≠ "__name__" := by decide) (hdb : (x == ("__debug__" : Str)) = false := by decide) (h1 : S1 X a := by rfl) :
    XE X C W (.Call (.Name x p) [a] [] pos) (eb ma fun y => fun ρ Q X z => f (dr z y) ρ Q X z) := by
  obtain ⟨ta, a1, a2⟩ := ha.ex
  exact ⟨_, pe_callB hc hg hm hv (pa1 a1 h1) hn hdb h1, den_unZ (r := fun x H Q => r [x] H Q) back_R a2 ho⟩
theorem xo_b1Z {id : String} {r : List V → Hp → VK → Prop} {fo : D → E (List D)} (hc : CallR X (.builtin id) r) (ho : Op1 C W (fun x H Q => r [x] H Q) fo (RO C)) (ha : XP X C W a ma) (hg : Gl X x) (hm : X.mg x = none) (hv : bootBuiltins x = some (.builtin id)) (hn : x ≠ "__name__" := by decide) (hdb : (x == ("__debug__" : Str)) = false := by decide) (h1 : S1 X a := by rfl) :
    XO X C W (.Call (.Name x p) [a] [] pos) (lZ fo ma) := by
  obtain ⟨ta, a1, a2⟩ := ha.ex
  exact ⟨_, pe_callB hc hg hm hv (pa1 a1 h1) hn hdb h1, den_unZ (r := fun x H Q => r [x] H Q) back_O a2 ho⟩
theorem xo_t1Z {T : String} {r : List V → Hp → VK → Prop} {fo : D → E (List D)} (hc : CallR X (.type T) r) (ho : Op1 C W (fun x H Q => r [x] H Q) fo (RO C)) (ha : XP X C W a ma) (hg : Gl X x) (hm : X.mg x = none) (hv : bootBuiltins x = some (.type T)) (hn : x ≠ "__name__" := by decide) (hdb : (x == ("__debug__" : Str)) = false := by decide) (h1 : S1 X a := by rfl) :
    XO X C W (.Call (.Name x p) [a] [] pos) (lZ fo ma) := by
  obtain ⟨ta, a1, a2⟩ := ha.ex
  exact ⟨_, pe_callTy hc hg hm hv (pa1 a1 h1) hn hdb h1, den_unZ (r := fun x H Q => r [x] H Q) back_O a2 ho⟩
theorem xe_lenZ (hK : X.K = C.K) (hg : Gl X "len") (hm : X.mg "len" = none) (ha : XP X C W a ma) (h1 : S1 X a := by rfl) : XE X C W (.Call (.Name "len" p) [a] [] pos) (eb ma fun y => fun ρ Q _ z => dLen (dr z y) fun d => Q d ρ z) :=
  xe_b1Z (f := fun d => eP (dLen d)) call_len (by rw [hK]; exact o_len) ha hg hm rfl (by decide) (by decide) h1
theorem xo_listZ (kx : Kx X C W k) (hg : Gl X "list") (hm : X.mg "list" = none) (ha : XP X C W a ma) (h1 : S1 X a := by rfl) : XO X C W (.Call (.Name "list" p) [a] [] pos) (lZ fList ma) :=
  xo_t1Z call_list_of (by rw [kx.hK]; exact o_list) ha hg hm rfl (by decide) (by decide) h1
/-- list(a dict): its keys -/
def fKeys : D → E (List D)
  | .dic ks _ => ep (ks.map keyE)
  | _ => eStuck
theorem o_keys : Op1 C W (fun x H Q => ∃ (a : Addr) (kvs : List (Key × V)), [x] = [V.ref a] ∧ Rd H a (.dK kvs) ∧ ∀ p, H p = none → Q (.ref p) (upd H p (.lst (kvs.map fun kv => kV kv.1)))) fKeys (RO C) := fun σ ρ F H z x dx Qd Xd Q S rx hm hq hx => by
  cases dx with
  | dic ks ds =>
    obtain ⟨a, xs, rfl, rd, l, r⟩ := RT.dic S.sub rx
    refine ⟨a, _, rfl, rd, fun p hp => ?_⟩
    have e : ((ks.zip xs).map fun kv => kV kv.1) = ks.map kV := by
      have q : (fun kv : Key × V => kV kv.1) = kV ∘ Prod.fst := rfl
      rw [q, ← List.map_map, List.map_fst_zip (by omega)]
    rw [e]
    refine S.newL hp ?_ hm hq
    clear hm rd rx e l
    induction ks with
    | nil => exact .nil
    | cons k ks ih => exact .cons (keyE_rel k) ih
  | _ => exact False.elim hm
theorem xo_keysZ (kx : Kx X C W k) (hg : Gl X "list") (hm : X.mg "list" = none) (ha : XP X C W a ma) (h1 : S1 X a := by rfl) : XO X C W (.Call (.Name "list" p) [a] [] pos) (lZ fKeys ma) :=
  xo_t1Z (call_listD kx.calm) o_keys ha hg hm rfl (by decide) (by decide) h1
theorem den_slZ {α : Type} {te : TE} {tl th : TO} {ml mh : E (Option Int)} {r : V → Option Int → Option Int → Hp → VK → Prop} {f : D → Option Int → Option Int → E α} {R : Hp → Hp → Hp → V → α → Prop} (hB : Back C R)
    (he : Den C W te m (kT C)) (hl : Den C W tl ml (fun _ _ _ a b => a = b)) (hh : Den C W th mh (fun _ _ _ a b => a = b))
    (ho : ∀ lo hi, Op1 C W (fun x H Q => r x lo hi H Q) (fun d => f d lo hi) R) : Den C W (tSl r te tl th) (eb m fun d => eb ml fun lo => eb mh fun hi => fun ρ Q X z => f (dr z d) lo hi ρ Q X z) R := by
  refine Den.bind (u := fun x σ H Q => tl σ H fun l H2 => th σ H2 fun u H3 => r x l u H3 Q) hB he fun H0 σ ρ F H z d x Qd Xd Q S rx hm hq hx => ?_
  refine hl σ ρ F H z _ Xd _ S hm (fun l ρ2 z2 l' F2 H2 q2 S2 ff2 k2 o2 el => ?_) hx
  subst el
  refine hh σ ρ2 F2 H2 z2 _ Xd _ S2 q2 (fun u ρ3 z3 u' F3 H3 q3 S3 ff3 k3 o3 eu => ?_) (fun e ρ' z' cls dd F' H' q' S' ff' r' => hx e ρ' z' cls dd F' H' q' S' (ff2.trans ff') r')
  subst eu
  exact ho _ _ σ ρ3 F3 H3 z3 x _ Qd Xd Q S3 (((rx.keep ff2 k2).keep ff3 k3).dr S3) q3
    (fun c ρ' z' d' F' H' q' S' ff' k' o' r' => hq c ρ' z' d' F' H' q' S' (ff2.trans (ff3.trans ff')) (k2.trans (k3.trans k')) ((o'.trans o3).trans o2) (hB _ _ _ _ _ _ (k2.trans k3).dm r'))
    (fun e ρ' z' cls dd F' H' q' S' ff' r' => hx e ρ' z' cls dd F' H' q' S' (ff2.trans (ff3.trans ff')) r')
theorem xo_sliceZ {lo hi : Option Expr} {ml mh : E (Option Int)} (hK : X.K = C.K) (he : XP X C W e m) (hl : XPart X C W lo ml) (hh : XPart X C W hi mh) : XO X C W (.Subscript e (.Slice lo hi none p2) pos) (eb m fun d => eb ml fun lo => eb mh fun hi => fun ρ Q X z => fSlO (dr z d) lo hi ρ Q X z) := by
  obtain ⟨t, a1, a2⟩ := he.ex
  obtain ⟨tl, b1, b2⟩ := hl.ex
  obtain ⟨th, c1, c2⟩ := hh.ex
  refine ⟨_, pe_slice sl_list a1 b1 c1, ?_⟩
  rw [hK]
  exact den_slZ back_O a2 b2 c2 o_slO

/-! ### writing -/
def fAppC (m : E D) : D → E Fl
  | .mc k => fun ρ Q X z => (∃ ds, z.cs[k]? = some (.lst ds)) ∧ m ρ (fun y ρ' z' => ∃ ds, z'.cs[k]? = some (.lst ds) ∧ ds.length < 16777216 ∧ Q .nx ρ' { z' with cs := z'.cs.set k (.lst (ds ++ [y])) }) X z
  | _ => eStuck
theorem xs_appC (kx : Kx X C W k) (hb : XE X C W b mb) (ha : XE X C W e m) (h1 : S1 X e := by rfl)
    (hbase : attributeBase b "append" X.env (eval b X.env) = eval b X.env := by rfl)
    (hfew : ((backTo p2 (starEach (e :: []) X.env)).all (fun x => !x.1) && (backToKw p2 (keywordEach [] X.env)).all (fun x => x.1.isSome)
      && decide ((e :: ([] : List Expr)).length + ([] : List Keyword).length + (if ([] : List Keyword).isEmpty then 0 else 1) < 30)) = true := by rfl)
    (hline : (p1.endLine == p2.line) = true := by rfl) (hs : swapsWith (.Call (.Attribute b "append" p1) [e] [] p2) none p3.line X.env = pure false := by rfl) :
    XS X C W (.Expr (.Call (.Attribute b "append" p1) [e] [] p2) p3) (eb mb (fAppC m)) := by
  obtain ⟨t, t1, t2⟩ := ha.ex
  obtain ⟨u, u1, u2⟩ := hb.ex
  refine ⟨_, ps_expr (pe_bm PySem.F.plainAttrs_list F.slot_list_append F.type_list_append mt_append u1 (pa1 t1 h1) hbase hfew hline h1 rfl) hs, fun σ ρ F H z Qd Xd Dn S hm hq hx => ?_⟩
  refine u2 σ ρ F H z _ Xd _ S hm (fun d ρ1 z1 v F1 H1 q1 S1 ff1 k1 o1 r1 => ?_) (fun e ρ' z' cls dd F' H' q S' ff r => hx e ρ' z' cls dd σ F' H' q S' ff r)
  cases d with
  | mc k =>
    cases r1 with
    | @mc l _ eg =>
      obtain ⟨⟨ds0, eq0⟩, q1⟩ := q1
      obtain ⟨o, c, e1, e2, e3⟩ := S1.cs.get eg
      rw [eq0] at e2
      cases e2
      obtain ⟨xs0, rfl, r0⟩ := e3
      refine ⟨.inl ⟨rfl, xs0, .inl (.inl e1)⟩, ?_⟩
      refine t2 σ ρ1 F1 H1 z1 _ Xd (fun y H1 => rAppend (.ref l) [y] H1 fun _ H2 => Dn.nx σ H2) S1 q1 (fun y ρ2 z2 v F2 H2 q2 S2 ff2 k2 o2 r2 => ?_) (fun e ρ' z' cls dd F' H' q S' ff r => hx e ρ' z' cls dd σ F' H' q S' (ff1.trans ff) r)
      obtain ⟨ds, eq1, hl, q2⟩ := q2
      have eg2 : F2 l = some (gh k) := ff2 _ _ eg
      obtain ⟨o', c', f1, f2, f3⟩ := S2.cs.get eg2
      rw [eq1] at f2
      cases f2
      obtain ⟨xs, rfl, rr⟩ := f3
      refine ⟨l, xs, v, rfl, rfl, f1, by rw [RpL.length rr, sizeLine_eq]; exact hl, ?_⟩
      exact hq .nx _ _ F2 _ q2 (ff1.trans ff2) σ (S2.setC (c := .lst (ds ++ [y])) eg2 ⟨xs ++ [v], rfl, RpL.app1 rr r2⟩)
  | _ => exact False.elim q1
/-- b.reverse(), b.clear() -/
def fMtC (f : List D → List D) : D → E Fl
  | .mc k => fun ρ Q X z => ∃ ds, z.cs[k]? = some (.lst ds) ∧ Q .nx ρ { z with cs := z.cs.set k (.lst (f ds)) }
  | _ => eStuck
theorem xs_mtC {nm : Str} {id : String} {r : V → List V → Hp → VK → Prop} {f : List D → List D} {fv : List V → List V} (slot : Slot "list" nm id) (hty : typeOf (.builtin id) = pure (.type "method_descriptor")) (hm : MtR X id r)
    (hr : ∀ l xs H (Q : Hp → Prop), H l = some (.lst xs) → Q (upd H l (.lst (fv xs))) → r (.ref l) [] H (fun _ H2 => Q H2)) (hf : ∀ mg pa (F : Hp) xs ds, RpL C.K mg pa F xs ds → RpL C.K mg pa F (fv xs) (f ds))
    (hb : XE X C W b mb) (hbase : attributeBase b nm X.env (eval b X.env) = eval b X.env := by rfl) (hline : (p1.endLine == p2.line) = true := by rfl)
    (hs : swapsWith (.Call (.Attribute b nm p1) [] [] p2) none p3.line X.env = pure false := by rfl) : XS X C W (.Expr (.Call (.Attribute b nm p1) [] [] p2) p3) (eb mb (fMtC f)) := by
  obtain ⟨u, u1, u2⟩ := hb.ex
  refine ⟨_, ps_expr (pe_bm0 PySem.F.plainAttrs_list slot hty hm u1 hbase hline) hs, fun σ ρ F H z Qd Xd Dn S hm' hq hx => ?_⟩
  refine u2 σ ρ F H z _ Xd _ S hm' (fun d ρ1 z1 v F1 H1 q1 S1 ff1 k1 o1 r1 => ?_) (fun e ρ' z' cls dd F' H' q S' ff r => hx e ρ' z' cls dd σ F' H' q S' ff r)
  cases d with
  | mc k =>
    cases r1 with
    | @mc l _ eg =>
      obtain ⟨ds, eq0, q1⟩ := q1
      obtain ⟨o, c, e1, e2, e3⟩ := S1.cs.get eg
      rw [eq0] at e2
      cases e2
      obtain ⟨xs, rfl, r0⟩ := e3
      refine ⟨.inl ⟨rfl, xs, .inl (.inl e1)⟩, hr l xs H1 _ e1 ?_⟩
      exact hq .nx _ _ F1 _ q1 ff1 σ (S1.setC (c := .lst (f ds)) eg ⟨fv xs, rfl, hf _ _ _ _ _ r0⟩)
  | _ => exact False.elim q1
theorem xs_reverseC (hb : XE X C W b mb) (hbase : attributeBase b "reverse" X.env (eval b X.env) = eval b X.env := by rfl) (hline : (p1.endLine == p2.line) = true := by rfl)
    (hs : swapsWith (.Call (.Attribute b "reverse" p1) [] [] p2) none p3.line X.env = pure false := by rfl) : XS X C W (.Expr (.Call (.Attribute b "reverse" p1) [] [] p2) p3) (eb mb (fMtC List.reverse)) :=
  xs_mtC F.slot_list_reverse F.type_list_reverse mt_reverse (fun l xs H Q h q => ⟨l, xs, rfl, rfl, h, q⟩) (fun mg pa F xs ds r => RpL.rev r) hb hbase hline hs
theorem xs_clearC (hb : XE X C W b mb) (hbase : attributeBase b "clear" X.env (eval b X.env) = eval b X.env := by rfl) (hline : (p1.endLine == p2.line) = true := by rfl)
    (hs : swapsWith (.Call (.Attribute b "clear" p1) [] [] p2) none p3.line X.env = pure false := by rfl) : XS X C W (.Expr (.Call (.Attribute b "clear" p1) [] [] p2) p3) (eb mb (fMtC fun _ => [])) :=
  xs_mtC F.slot_list_clear F.type_list_clear mt_clear (fun l xs H Q h q => ⟨l, xs, rfl, rfl, h, q⟩) (fun mg pa F xs ds r => .nil) hb hbase hline hs
/-- b[i] = y, a list -/
def fSetL (y b i : D) : E Fl := fun ρ Q _ z => match b, i with
  | .mc k, .int j => ∃ ds n, z.cs[k]? = some (.lst ds) ∧ ixN ds.length j = some n ∧ Q .nx ρ { z with cs := z.cs.set k (.lst (ds.set n y)) }
  | _, _ => False
def sSetC (f : D → D → D → E Fl) (mv mb mi : E D) : E Fl := eb mv fun y => eb mb fun b => eb mi fun i => f y b i
theorem xs_setC {mv mi : E D} {v : Expr} (hb : XE X C W b mb) (ha : XE X C W v mv) (hi : XE X C W e mi) (hs : swapsWithSole [.Subscript b e p1] v pos.line X.env = pure false := by rfl) (hw : swappedStores [.Subscript b e p1] v X.env = pure none := by rfl)
    (hset : ∀ w, assign (.Subscript b e p1) X.env w = (do
      let ov ← holding [w] (eval b X.env)
      let iv ← holding [w, ov] (eval e X.env)
      standAt p1
      holding [w, ov, iv] (setItem ov iv w)
      release [w, ov, iv] []) := by intro _; rfl)
    (h1 : (assignEach [.Subscript b e p1] X.env).map (·.2) = [assign (.Subscript b e p1) X.env] := by rfl) :
    XS X C W (.Assign [.Subscript b e p1] v pos) (sSetC fSetL mv mb mi) := by
  obtain ⟨t, t1, t2⟩ := ha.ex
  obtain ⟨w, w1, w2⟩ := hb.ex
  obtain ⟨u, u1, u2⟩ := hi.ex
  refine ⟨_, ps_asg t1 (pg_sub w1 u1 set_list hset) hs hw h1, fun σ ρ F H z Qd Xd Dn S hm hq hx => ?_⟩
  refine t2 σ ρ F H z _ Xd (fun y H1 => gSub w u rSetL y σ H1 Dn.nx) S hm (fun y ρ1 z1 v F1 H1 q1 S1 ff1 k1 o1 r1 => ?_) (fun e ρ' z' cls dd F' H' q S' ff r => hx e ρ' z' cls dd σ F' H' q S' ff r)
  refine w2 σ ρ1 F1 H1 z1 _ Xd _ S1 q1 (fun d ρ2 z2 vb F2 H2 q2 S2 ff2 k2 o2 r2 => ?_) (fun e ρ' z' cls dd F' H' q S' ff r => hx e ρ' z' cls dd σ F' H' q S' (ff1.trans ff) r)
  refine u2 σ ρ2 F2 H2 z2 _ Xd _ S2 q2 (fun di ρ3 z3 vi F3 H3 q3 S3 ff3 k3 o3 r3 => ?_) (fun e ρ' z' cls dd F' H' q S' ff r => hx e ρ' z' cls dd σ F' H' q S' (ff1.trans (ff2.trans ff)) r)
  dsimp only [fSetL] at q3
  split at q3
  · rename_i k j
    obtain ⟨ds, n, eq0, ix, q3⟩ := q3
    cases r2 with
    | @mc l _ eg =>
      cases r3
      have eg3 : F3 l = some (gh k) := ff3 _ _ eg
      obtain ⟨o, c, e1, e2, e3⟩ := S3.cs.get eg3
      rw [eq0] at e2
      cases e2
      obtain ⟨xs, rfl, rr⟩ := e3
      refine ⟨l, xs, j, n, rfl, rfl, e1, by rw [RpL.length rr]; exact ix, ?_⟩
      exact hq .nx _ _ F3 _ q3 (ff1.trans (ff2.trans ff3)) σ (S3.setC (c := .lst (ds.set n y)) eg3 ⟨_, rfl, RpL.set n rr (Rp.mono (ff2.trans ff3) r1)⟩)
  · exact False.elim q3
/-- b[i] = y, a dict -/
def fSetD (y b i : D) : E Fl := fun ρ Q _ z => match b with
  | .mc k => ∃ ks ds key, z.cs[k]? = some (.dic ks ds) ∧ keyD i = some key ∧ ks.length < 16777216 ∧ Q .nx ρ { z with cs := z.cs.set k (.dic (dputL ks ds key y).1 (dputL ks ds key y).2) }
  | _ => False
theorem xs_setD {mv mi : E D} {v : Expr} (kx : Kx X C W k) (hb : XE X C W b mb) (ha : XE X C W v mv) (hi : XE X C W e mi) (hs : swapsWith v (some (.Subscript b e p1)) pos.line X.env = pure false := by rfl) :
    XS X C W (.Assign [.Subscript b e p1] v pos) (sSetC fSetD mv mb mi) := by
  obtain ⟨t, t1, t2⟩ := ha.ex
  obtain ⟨w, w1, w2⟩ := hb.ex
  obtain ⟨u, u1, u2⟩ := hi.ex
  refine ⟨_, ps_dput (by have := kx.hu; omega) w1 u1 t1 hs, fun σ ρ F H z Qd Xd Dn S hm hq hx => ?_⟩
  refine t2 σ ρ F H z _ Xd _ S hm (fun y ρ1 z1 v F1 H1 q1 S1 ff1 k1 o1 r1 => ?_) (fun e ρ' z' cls dd F' H' q S' ff r => hx e ρ' z' cls dd σ F' H' q S' ff r)
  refine w2 σ ρ1 F1 H1 z1 _ Xd _ S1 q1 (fun d ρ2 z2 vb F2 H2 q2 S2 ff2 k2 o2 r2 => ?_) (fun e ρ' z' cls dd F' H' q S' ff r => hx e ρ' z' cls dd σ F' H' q S' (ff1.trans ff) r)
  refine u2 σ ρ2 F2 H2 z2 _ Xd _ S2 q2 (fun di ρ3 z3 vi F3 H3 q3 S3 ff3 k3 o3 r3 => ?_) (fun e ρ' z' cls dd F' H' q S' ff r => hx e ρ' z' cls dd σ F' H' q S' (ff1.trans (ff2.trans ff)) r)
  dsimp only [fSetD] at q3
  split at q3
  · rename_i k
    obtain ⟨ks, ds, key, eq0, ek, hl, q3⟩ := q3
    cases r2 with
    | @mc l _ eg =>
      have eg3 : F3 l = some (gh k) := ff3 _ _ eg
      obtain ⟨o, c, e1, e2, e3⟩ := S3.cs.get eg3
      rw [eq0] at e2
      cases e2
      obtain ⟨xs, rfl, ll, rr⟩ := e3
      have rk : vi = kV key := keyD_rel (C := C) (F := F3) (H := H3) (.inl r3) ek
      subst rk
      obtain ⟨xs', p1, p2, p3⟩ := put_rel (k := key) rr ll (Rp.mono (ff2.trans ff3) r1)
      refine ⟨l, _, rfl, DPut.k (k := key) e1 (by rw [List.length_zip, sizeLine_eq]; omega), ?_⟩
      rw [p1]
      exact hq .nx _ _ F3 _ q3 (ff1.trans (ff2.trans ff3)) σ (S3.setC (c := .dic (dputL ks ds key y).1 (dputL ks ds key y).2) eg3 ⟨xs', rfl, p2, p3⟩)
  · exact False.elim q3
end
end DL

namespace DL
open PySem PySem.Spec PyProof.Rows L2

/-! ## what is not meant here: no reading -/
section
variable {X : Cx} {C : CC} {W : WX} {e : Expr} {es : List Expr} {st : Stmt}
theorem xe_stuck : XE X C W e eStuck := ⟨fun _ _ _ => False, ⟨fun _ _ _ _ _ _ h => False.elim h⟩, fun _ _ _ _ _ _ _ _ _ hm _ _ => hm⟩
theorem xo_stuck : XO X C W e eStuck := ⟨fun _ _ _ => False, ⟨fun _ _ _ _ _ _ h => False.elim h⟩, fun _ _ _ _ _ _ _ _ _ hm _ _ => hm⟩
theorem xt_stuck : XT X C W e eStuck := ⟨fun _ _ _ => False, ⟨fun _ _ _ _ _ _ h => False.elim h⟩, fun _ _ _ _ _ _ _ _ _ hm _ _ => hm⟩
theorem xs_stuck : XS X C W st eStuck := ⟨fun _ _ _ => False, ⟨fun _ _ _ _ _ _ h => False.elim h⟩, fun _ _ _ _ _ _ _ _ _ hm _ _ => hm⟩
theorem xss_stuck {ss : List Stmt} : XSs X C W ss eStuck := ⟨fun _ _ _ => False, ⟨fun _ _ _ _ _ _ h => False.elim h⟩, fun _ _ _ _ _ _ _ _ _ hm _ _ => hm⟩
end
@[simp] theorem eStuck_a {α : Type} (ρ : Rho) (Q : α → Rho → Zs → Prop) (X : Er → Rho → Zs → Prop) (z : Zs) : (eStuck : E α) ρ Q X z = False := propext Iff.rfl

/-! ## is True, of any plain value -/
def plV : V → Bool
  | .non => true
  | .int _ => true
  | .str _ => true
  | _ => false
theorem op_isBX {X : Cx} : OpR X (compareOp .Is) (fun x y H Q => ∃ b, y = .bl b ∧ ((∃ a, x = .bl a ∧ Q (.bl (decide (a = b))) H) ∨ (plV x = true ∧ Q (.bl false) H))) := by
  intro pins s σ H x y v u Q I rx ry h
  obtain ⟨b, rfl, h⟩ := h
  rcases h with ⟨a, rfl, q⟩ | ⟨p, q⟩
  · exact op_is_bl pins s σ H _ _ v u Q I rx ry ⟨a, b, rfl, rfl, q⟩
  · cases (show u = Value.bool b from ry)
    cases x <;> first | cases p | skip
    · cases (show v = Value.none from rx)
      exact wpAny_is_other rfl (fun z => by cases z) ⟨.bl false, H, I, rfl, q⟩
    · obtain ⟨t, rfl⟩ := rx
      exact wpAny_is_other rfl (fun z => by cases z) ⟨.bl false, H, I, rfl, q⟩
    · obtain ⟨t, rfl⟩ := rx
      exact wpAny_is_other rfl (fun z => by cases z) ⟨.bl false, H, I, rfl, q⟩
def dIsBX : P2
  | .bl a, .bl b, Q => Q (.bl (decide (a = b)))
  | .non, .bl _, Q => Q (.bl false)
  | .int _, .bl _, Q => Q (.bl false)
  | .str _, .bl _, Q => Q (.bl false)
  | _, _, _ => False
theorem o_isBX {C : CC} {W : WX} : Op2 C W (fun x y H Q => ∃ b, y = .bl b ∧ ((∃ a, x = .bl a ∧ Q (.bl (decide (a = b))) H) ∨ (plV x = true ∧ Q (.bl false) H))) (fun a b => eP (dIsBX a b)) (kR C) := op2_flat fun F H x y dx dy Q Qd s rx ry hp hq => by
  cases dx <;> cases dy <;> first | exact hp.elim | skip
  · obtain rfl := rx.non
    exact ⟨_, ry.bl, .inr ⟨rfl, hq _ _ hp (.bl _)⟩⟩
  · exact ⟨_, ry.bl, .inl ⟨_, rx.bl, hq _ _ hp (.bl _)⟩⟩
  · obtain rfl := rx.int
    exact ⟨_, ry.bl, .inr ⟨rfl, hq _ _ hp (.bl _)⟩⟩
  · obtain rfl := rx.str
    exact ⟨_, ry.bl, .inr ⟨rfl, hq _ _ hp (.bl _)⟩⟩
section
variable (a b : Bool) (i : Int) (s : Str) (Q : D → Prop)
@[simp] theorem dIsBX_1 : dIsBX (.bl a) (.bl b) Q = Q (.bl (decide (a = b))) := propext Iff.rfl
@[simp] theorem dIsBX_2 : dIsBX .non (.bl b) Q = Q (.bl false) := propext Iff.rfl
@[simp] theorem dIsBX_3 : dIsBX (.int i) (.bl b) Q = Q (.bl false) := propext Iff.rfl
@[simp] theorem dIsBX_4 : dIsBX (.str s) (.bl b) Q = Q (.bl false) := propext Iff.rfl
end

/-! ## a class of the module, as callers use it; its methods and getters -/
structure GCn (P : Program) (w : World) (K : PySem.W.Frag) (mg : Str → Option Value) (base : Heap) (x : Str) (A : Addr) (j : Nat) (g : Addr) (fd : FuncData) (ps : List Str) (sp : Sp) : Prop where
  fn : FnG P w K mg base j g fd ps sp
  mg : mg x = some (.ref A)
  mkr : Mk K A g
  cls : Cls K A
  bg : BG K fd ps [] ps.length gL gL
theorem GCn.g {X : Cx} {x : Str} {A : Addr} {j : Nat} {g : Addr} {fd : FuncData} {ps : List Str} {sp : Sp} (h : GCn X.prog X.w X.K X.mg X.base x A j g fd ps sp) : GC X x A j g fd ps sp := ⟨h.fn, h.mg, h.mkr, h.cls⟩
structure GMn (P : Program) (w : World) (K : PySem.W.Frag) (mg : Str → Option Value) (base : Heap) (j : Nat) (g : Addr) (fd : FuncData) (ps : List Str) (sp : Sp) : Prop where
  fn : FnG P w K mg base j g fd ps sp
  bg : BG K fd ps [] ps.length gL gL
theorem GMn.g {X : Cx} {j : Nat} {g : Addr} {fd : FuncData} {ps : List Str} {sp : Sp} (h : GMn X.prog X.w X.K X.mg X.base j g fd ps sp) : GM X j g fd ps sp := ⟨h.fn, h.bg⟩
section
variable (c : Str) (ns : List Str) (n m : Nat) (mi : List D → E0 (List D)) (ml mk : E (List D)) (f : Str) (ds vs : List D) (md : List D → E0 D) (mo : List D → E0 (List D)) (ρ : Rho) (Qd : D → Rho → Zs → Prop) (Ql : List D → Rho → Zs → Prop) (X : Er → Rho → Zs → Prop) (z : Zs) (Q : D → Prop)
@[simp] theorem eNew_a : eNew c ns n m mi ml mk ρ Qd X z = ml ρ (fun ds ρ1 z1 => mk ρ1 (fun es ρ2 z2 => ds.length = n ∧ es.length = m ∧ mi (ds ++ es) (fun fs z' => fs.length = ns.length ∧ Qd (.ins c ns fs) ρ2 z') (fun e z' => X e ρ2 z') z2) X z1) X z := propext Iff.rfl
@[simp] theorem fProp_a : fProp c md (.ins c ns vs) ρ Qd X z = md [.ins c ns vs] (fun r z' => Qd r ρ z') (fun _ _ => False) z := propext ⟨fun h => h.2, fun h => ⟨⟨_, _, rfl⟩, h⟩⟩
@[simp] theorem fProp_o : fProp c mo (.ins c ns vs) ρ Ql X z = mo [.ins c ns vs] (fun r z' => Ql r ρ z') (fun _ _ => False) z := propext ⟨fun h => h.2, fun h => ⟨⟨_, _, rfl⟩, h⟩⟩
@[simp] theorem dFld_a : dFld c f (.ins c ns vs) Q = ∃ d, lkp f ns vs = some d ∧ Q d := propext ⟨fun h => h.2, fun h => ⟨rfl, h⟩⟩
theorem dN_a (me : E D) (Qf : List D → Zs → Prop) (X0 : Er → Zs → Prop) : dN n me ds Qf X0 z = me (.no :: rho0 n ds) (fun d _ z => Qf [d] z) (fun e _ z => X0 e z) z := propext Iff.rfl
end
section
variable (ds : List D) (ks : List Key) (ρ : Rho) (Qd : D → Rho → Zs → Prop) (Ql : List D → Rho → Zs → Prop) (Qf : Fl → Rho → Zs → Prop) (X : Er → Rho → Zs → Prop) (z : Zs) (mv mb mi : E D) (m : E D) (k : Nat) (j : Int) (y : D) (f : List D → List D)
@[simp] theorem fNewL_a : fNewL ds ρ Qd X z = Qd (.mc z.cs.length) ρ { z with cs := z.cs ++ [.lst ds] } := propext Iff.rfl
@[simp] theorem fNewD_a : fNewD ks ds ρ Qd X z = Qd (.mc z.cs.length) ρ { z with cs := z.cs ++ [.dic ks ds] } := propext Iff.rfl
@[simp] theorem sSetC_a (g : D → D → D → E Fl) : sSetC g mv mb mi ρ Qf X z = mv ρ (fun y ρ1 z1 => mb ρ1 (fun b ρ2 z2 => mi ρ2 (fun i ρ3 z3 => g y b i ρ3 Qf X z3) X z2) X z1) X z := propext Iff.rfl
@[simp] theorem fSetL_a : fSetL y (.mc k) (.int j) ρ Qf X z = ∃ ds n, z.cs[k]? = some (.lst ds) ∧ ixN ds.length j = some n ∧ Qf .nx ρ { z with cs := z.cs.set k (.lst (ds.set n y)) } := propext Iff.rfl
@[simp] theorem fSetD_a (i : D) : fSetD y (.mc k) i ρ Qf X z = ∃ ks ds key, z.cs[k]? = some (.dic ks ds) ∧ keyD i = some key ∧ ks.length < 16777216 ∧ Qf .nx ρ { z with cs := z.cs.set k (.dic (dputL ks ds key y).1 (dputL ks ds key y).2) } := propext Iff.rfl
@[simp] theorem fAppC_a : fAppC m (.mc k) ρ Qf X z = ((∃ ds, z.cs[k]? = some (.lst ds)) ∧ m ρ (fun y ρ' z' => ∃ ds, z'.cs[k]? = some (.lst ds) ∧ ds.length < 16777216 ∧ Qf .nx ρ' { z' with cs := z'.cs.set k (.lst (ds ++ [y])) }) X z) := propext Iff.rfl
@[simp] theorem fMtC_a : fMtC f (.mc k) ρ Qf X z = ∃ ds, z.cs[k]? = some (.lst ds) ∧ Qf .nx ρ { z with cs := z.cs.set k (.lst (f ds)) } := propext Iff.rfl
@[simp] theorem fKeys_a : fKeys (.dic ks ds) ρ Ql X z = Ql (ks.map keyE) ρ z := propext Iff.rfl
end
abbrev gKW {α : Type} : List α → List α → List α := fun a b => a ++ b
/-- one by position, the others by keywords in the parameters' order -/
theorem bg_kwI {K : PySem.W.Frag} {x qual : Str} {params : Arguments} {body : List Stmt} {scope : Scope} {kws : List (Str × V)} {f : Addr} {fd : FuncData} {ps ks : List Str} (F : FunD K x qual params body scope [] kws f fd)
    (h : ∀ (kV doc pm : Value) (an : Option Addr) (cdv ct : Value) (us ws : List Value), us.length = 1 → ws.length = ks.length → bindArgs (PySem.W.fnOf x qual params body scope .none kV doc pm an cdv ct) ⟨us, ks.zip ws⟩ = pure (ps.zip (us ++ ws))) : BG K fd ps ks 1 gKW gKW := by
  obtain ⟨oc, od, dV, kV, doc, pm, an, cdv, ct, osl, rfl, lk, hcd, hD, hK⟩ := F.ex
  rcases hD with ⟨_, rfl⟩ | ⟨e, _⟩
  · exact ⟨fun s us ws X l1 l2 => ⟨_, .of_eq (h kV doc pm an cdv ct us ws l1 l2), fun vs zs r1 r2 => r1.append r2⟩, fun mg pa F vs ds zs es r1 r2 => RpL.append r1 r2⟩
  · exact absurd rfl e
end DL

namespace DL
open PySem PySem.Spec PyProof.Rows L2

/-! ## sorted, of data of one shape -/
def dle (a b : D) : Bool := PySem.W.dataLe false D.py a b
def fSortD : D → E (List D)
  | .lst ds => fun ρ Q _ z => (isPyL ds = true ∧ PySem.W.AllAlike (pyL ds) ∧ PySem.W.Sortable (pyL ds) ∧ (∀ d ∈ pyL ds, d.depth ≤ 60) ∧ ds.length ≤ 16777216) ∧ Q (ds.mergeSort dle) ρ z
  | _ => eStuck
abbrev vd (xs : List V) (ds : List PyData) : List (V × PyData) := (xs.zip ds).mergeSort (PySem.W.dataLe false Prod.snd)
def rSortD (K : PySem.W.Frag) : List V → Hp → VK → Prop := fun vs H Q => ∃ (a : Addr) (xs : List V) (ds : List PyData), vs = [V.ref a] ∧ SqL K H a xs ∧ DpAll K H xs ds ∧ PySem.W.AllAlike ds ∧ PySem.W.Sortable ds ∧ (∀ d ∈ ds, d.depth ≤ 60) ∧
  ∀ p, H p = none → Q (.ref p) (upd H p (.lst ((vd xs ds).map (·.1))))
theorem dpAll_len {K : PySem.W.Frag} {H : Hp} : ∀ {xs : List V} {ds : List PyData}, DpAll K H xs ds → xs.length = ds.length
  | _, _, .nil => rfl
  | _, _, .cons _ t => by simp [dpAll_len t]
theorem each_zip {X : Cx} {pins : List (Addr × Obj)} {σ : L2.St} {H : Hp} {s : Shared} (I : Inv X pins σ H s) : ∀ {xs : List V} {us : List Value} {ds : List PyData}, Vals xs us → DpAll X.K H xs ds →
    PySem.W.EachIs (fun u (b : V × PyData) => RelV b.1 u) us (xs.zip ds) ∧ PySem.W.EachIs (fun u (b : V × PyData) => ∃ as, Reads s.heap u b.2 as) us (xs.zip ds)
  | _, _, _, .nil, .nil => ⟨.nil, .nil⟩
  | _, _, _, .cons r t, .cons h q => ⟨.cons r (each_zip I t q).1, .cons (Dp.reads I _ _ _ h r) (each_zip I t q).2⟩
theorem each_vals : ∀ {us : List Value} {bs : List (V × PyData)}, PySem.W.EachIs (fun u (b : V × PyData) => RelV b.1 u) us bs → Vals (bs.map (·.1)) us
  | _, _, .nil => .nil
  | _, _, .cons r t => .cons r (each_vals t)
theorem call_sortD {X : Cx} (hu : X.A.units + 65 < cLine) : CallR X (.builtin "sorted") (rSortD X.K) := by
  intro pins s σ H vs us Q I r h
  obtain ⟨a, xs, ds, rfl, hs, hd, hal, hso, hdp, q⟩ := h
  obtain ⟨its, rv, hl, hz⟩ := I.list hs
  rw [Vals.ref1 r]
  have el := dpAll_len hd
  have ev : (xs.zip ds).map Prod.snd = ds := List.map_snd_zip (by omega)
  obtain ⟨e1, e2⟩ := each_zip I rv hd
  refine PySem.W.sorted_data (bs := xs.zip ds) (enc := Prod.snd) hl.isList e1 e2 (by rw [ev]; exact hal) (by rw [ev]; exact hso) (by rw [List.length_zip]; omega) (fun b hb => ?_) fun out ho eo => ?_
  · have := hdp b.2 (by rw [← ev]; exact List.mem_map.mpr ⟨b, hb, rfl⟩)
    omega
  · obtain ⟨ep, he'⟩ := PyProof.Rows.sortedAll_at s.heap its (List.toArray out)
    have hlen : ((vd xs ds).map (·.1)).length ≤ sizeLine := by
      rw [List.length_map, List.length_mergeSort, List.length_zip]; omega
    have hv := each_vals eo
    refine ⟨.ref _, upd H (s.heap.objs.size + 1) (.lst ((vd xs ds).map (·.1))), I.laid (t' := s.toks) (fun _ _ => PyProof.Rows.sortedAll_old) (Nat.le_succ _) ⟨hlen, out, ep, hv, he'⟩, rfl, q _ (I.hok.fresh (Nat.le_succ _))⟩
theorem pyL_map (ds : List D) : pyL ds = ds.map D.py := by
  induction ds with
  | nil => rfl
  | cons d r ih => show d.py :: pyL r = _; rw [ih]; rfl
theorem RpL.zipI {K : PySem.W.Frag} {mg : Str → Option Value} {pa : Option Addr} {F : Hp} : ∀ {xs : List V} {ds : List D}, RpL K mg pa F xs ds → ∀ b ∈ xs.zip ds, Rp K mg pa F b.1 b.2
  | _, _, .nil, b, h => by simp at h
  | _, _, .cons r t, b, h => by
    rw [List.zip_cons_cons] at h
    rcases List.mem_cons.mp h with e | h
    · rw [e]; exact r
    · exact RpL.zipI t b h
theorem RpL.ofI {K : PySem.W.Frag} {mg : Str → Option Value} {pa : Option Addr} {F : Hp} : ∀ {bs : List (V × D)}, (∀ b ∈ bs, Rp K mg pa F b.1 b.2) → RpL K mg pa F (bs.map (·.1)) (bs.map (·.2))
  | [], _ => .nil
  | b :: r, h => .cons (h b List.mem_cons_self) (RpL.ofI fun c hc => h c (List.mem_cons_of_mem _ hc))
theorem o_sortD {C : CC} {W : WX} : Op1 C W (fun x H Q => rSortD C.K [x] H Q) fSortD (RO C) := fun σ ρ F H z x dx Qd Xd Q S rx hm hq hx => by
  cases dx with
  | lst ds =>
    obtain ⟨a, xs, rfl, ha, r, _⟩ := RT.lst S.sub rx
    obtain ⟨⟨h1, h2, h3, h4, h5⟩, hm⟩ := hm
    refine ⟨a, xs, pyL ds, rfl, .inl (.inl ha), RpL.dp S.sub r h1, h2, h3, h4, fun p hp => ?_⟩
    have el := RpL.length r
    have e1 : xs.zip (pyL ds) = (xs.zip ds).map (fun b => (b.1, b.2.py)) := by
      rw [pyL_map, List.zip_map_right]
      rfl
    have e2 : (vd xs (pyL ds)).map (·.1) = ((xs.zip ds).mergeSort (fun a b => dle a.2 b.2)).map (·.1) := by
      unfold vd
      rw [e1, ← List.map_mergeSort (r := fun a b => dle a.2 b.2)]
      · rw [List.map_map]; rfl
      · intro a _ b _; rfl
    have e3 : ((xs.zip ds).mergeSort (fun a b => dle a.2 b.2)).map (·.2) = ds.mergeSort dle := by
      rw [List.map_mergeSort (s := dle)]
      · rw [List.map_snd_zip (by omega)]
      · intro a _ b _; rfl
    rw [e2]
    refine S.newL hp ?_ hm hq
    rw [← e3]
    exact RpL.ofI fun b hb => RpL.zipI r b ((List.mergeSort_perm _ _).mem_iff.mp hb)
  | _ => exact False.elim hm
theorem xo_sortD {X : Cx} {C : CC} {W : WX} {p pos : Pos} {k : Nat} {a : Expr} {ma : E D} (kx : Kx X C W k) (hg : Gl X "sorted") (hm : X.mg "sorted" = none) (ha : XP X C W a ma) (h1 : S1 X a := by rfl) : XO X C W (.Call (.Name "sorted" p) [a] [] pos) (eb ma fSortD) :=
  xo_b1 (call_sortD kx.hu) (by rw [kx.hK]; exact o_sortD) ha hg hm rfl (by decide) (by decide) h1
@[simp] theorem fSortD_a (ds : List D) (ρ : Rho) (Q : List D → Rho → Zs → Prop) (X : Er → Rho → Zs → Prop) (z : Zs) : fSortD (.lst ds) ρ Q X z = ((isPyL ds = true ∧ PySem.W.AllAlike (pyL ds) ∧ PySem.W.Sortable (pyL ds) ∧ (∀ d ∈ pyL ds, d.depth ≤ 60) ∧ ds.length ≤ 16777216) ∧ Q (ds.mergeSort dle) ρ z) := propext Iff.rfl
/-! ## in a tuple of ints or of texts -/
theorem inV_str (s : Str) : ∀ ns : List Str, inV (.str s) (ns.map V.str) = ns.any fun n => decide (n = s)
  | [] => rfl
  | n :: r => by
    have ih := inV_str s r
    unfold inV at ih ⊢
    rw [List.map_cons, List.any_cons, List.any_cons, ih]
    congr 1
theorem flat_strs : ∀ ns : List Str, (ns.map V.str).all flatV = true
  | [] => rfl
  | n :: r => by
    rw [List.map_cons, List.all_cons, flat_strs r]
    rfl
def dInX : P2
  | .str s, .tup ds, Q => ∃ ys, strsOf ds = some ys ∧ Q (.bl (ys.any fun n => decide (n = s)))
  | a, b, Q => dInT a b Q
def dNotInX : P2
  | .str s, .tup ds, Q => ∃ ys, strsOf ds = some ys ∧ Q (.bl (!ys.any fun n => decide (n = s)))
  | a, b, Q => dNotInT a b Q
section
variable {C : CC} {W : WX}
theorem o_inX : Op2 C W (rIn C.K false) (fun a b => eP (dInX a b)) (kR C) := fun σ ρ F H z x y dx dy Qd Xd Q S rx ry hm hq hx => by
  unfold dInX at hm
  dsimp only [eP] at hm
  split at hm
  · rename_i ds
    obtain ⟨ns, h1, q⟩ := hm
    obtain rfl := RT.str rx
    obtain ⟨a, xs, rfl, ha, r⟩ := RT.tup S.sub ry
    have e := RpL.strs r h1
    subst e
    refine ⟨a, _, rfl, .inr ha, rfl, flat_strs ns, ?_⟩
    rw [if_neg Bool.false_ne_true, inV_str]
    exact S.same (R := kR C) q (.bl _) hq
  · exact o_inT (W := W) σ ρ F H z x y _ _ Qd Xd Q S rx ry hm hq hx
theorem o_notInX : Op2 C W (rIn C.K true) (fun a b => eP (dNotInX a b)) (kR C) := fun σ ρ F H z x y dx dy Qd Xd Q S rx ry hm hq hx => by
  unfold dNotInX at hm
  dsimp only [eP] at hm
  split at hm
  · rename_i ds
    obtain ⟨ns, h1, q⟩ := hm
    obtain rfl := RT.str rx
    obtain ⟨a, xs, rfl, ha, r⟩ := RT.tup S.sub ry
    have e := RpL.strs r h1
    subst e
    refine ⟨a, _, rfl, .inr ha, rfl, flat_strs ns, ?_⟩
    rw [if_pos rfl, inV_str]
    exact S.same (R := kR C) q (.bl _) hq
  · exact o_notInT (W := W) σ ρ F H z x y _ _ Qd Xd Q S rx ry hm hq hx
end
section
variable (s a b c : Str) (i : Int) (ds : List D) (Q : D → Prop)
@[simp] theorem dInX_1 : dInX (.int i) (.tup ds) Q = ∃ ns, intsOf ds = some ns ∧ Q (.bl (ns.any fun n => decide (n = i))) := propext Iff.rfl
@[simp] theorem dInX_2 : dInX (.str s) (.tup [.str a, .str b]) Q = Q (.bl (decide (a = s) || decide (b = s))) := by
  refine propext ⟨fun ⟨ys, e, q⟩ => ?_, fun q => ⟨[a, b], rfl, ?_⟩⟩
  · cases e; simpa using q
  · simpa using q
@[simp] theorem dInX_3 : dInX (.str s) (.tup [.str a, .str b, .str c]) Q = Q (.bl (decide (a = s) || decide (b = s) || decide (c = s))) := by
  refine propext ⟨fun ⟨ys, e, q⟩ => ?_, fun q => ⟨[a, b, c], rfl, ?_⟩⟩
  · cases e; simpa [Bool.or_assoc] using q
  · simpa [Bool.or_assoc] using q
@[simp] theorem dNotInX_2 : dNotInX (.str s) (.tup [.str a, .str b]) Q = Q (.bl (!(decide (a = s) || decide (b = s)))) := by
  refine propext ⟨fun ⟨ys, e, q⟩ => ?_, fun q => ⟨[a, b], rfl, ?_⟩⟩
  · cases e; simpa using q
  · simpa using q
end
end DL

namespace DL
open PySem PySem.Spec PyProof.Rows L2 PySem.W

/-! ## l.index(x) -/
section
variable {X : Cx} {C : CC} {W : WX} {b e : Expr} {mb me : E D} {p1 p2 : Pos} {k : Nat}
def dIdx (ds : List D) (y : D) (Q : D → Prop) : Prop := (isPyL ds = true ∧ y.isPy = true ∧ SeqAt.shaped (.list (pyL ds)) = true ∧ SeqAt.shaped y.py = true) ∧
  ∃ (j : Nat) (z : PyData), (pyL ds)[j]? = some z ∧ PyData.eqv z y.py = true ∧ (∀ (m : Nat) (z' : PyData), m < j → (pyL ds)[m]? = some z' → PyData.eqv z' y.py = false) ∧ Q (.int (j : Nat))
def fIdx (me : E D) : D → E D
  | .lst ds => eb me fun y => eP (dIdx ds y)
  | _ => eStuck
theorem xe_index (kx : Kx X C W k) (ha : XP X C W b mb) (hi : XP X C W e me) (h1 : S1 X e := by rfl)
    (hbase : attributeBase b "index" X.env (eval b X.env) = eval b X.env := by rfl)
    (hfew : ((backTo p2 (starEach (e :: []) X.env)).all (fun x => !x.1) && (backToKw p2 (keywordEach [] X.env)).all (fun x => x.1.isSome)
      && decide ((e :: ([] : List Expr)).length + ([] : List Keyword).length + (if ([] : List Keyword).isEmpty then 0 else 1) < 30)) = true := by rfl)
    (hline : (p1.endLine == p2.line) = true := by rfl) : XE X C W (.Call (.Attribute b "index" p1) [e] [] p2) (eb mb (fIdx me)) := by
  obtain ⟨u, u1, u2⟩ := ha.ex
  obtain ⟨t, t1, t2⟩ := hi.ex
  refine ⟨_, pe_bm PySem.F.plainAttrs_list F.slot_list_index F.type_list_index (mt_indexD kx.hu) u1 (pa1 t1 h1) hbase hfew hline h1 rfl, fun σ ρ F H z Qd Xd Q S hm hq hx => ?_⟩
  refine u2 σ ρ F H z _ Xd _ S hm (fun d ρ1 z1 v F1 H1 q1 S1 ff1 k1 o1 r1 => ?_) (fun e ρ' z' cls dd F' H' q S' ff r => hx e ρ' z' cls dd F' H' q S' ff r)
  rw [kx.hK]
  cases d with
  | lst ds =>
    obtain ⟨l, xs, rfl, e2, rl, _⟩ := RT.lst S1.sub r1.now
    refine ⟨.inl ⟨rfl, xs, .inl (.inl e2)⟩, ?_⟩
    refine t2 σ ρ1 F1 H1 z1 _ Xd (fun y H2 => rIndexD C.K (.ref l) [y] H2 Q) S1 q1 (fun y ρ2 z2 w F2 H2 q2 S2 ff2 k2 o2 r2 => ?_) (fun e ρ' z' cls dd F' H' q S' ff r => hx e ρ' z' cls dd F' H' q S' (ff1.trans ff) r)
    obtain ⟨⟨a1, a2, a3, a4⟩, j, zz, b1, b2, b3, q3⟩ := q2
    have rl2 := (r1.keep ff2 k2).now
    exact ⟨l, w, y.py, pyL ds, j, zz, rfl, rfl, rl2.dp S2.sub (by simpa [D.isPy] using a1), r2.now.dp S2.sub a2, a3, a4, b1, b2, b3, hq (.int j) ρ2 z2 _ F2 H2 q3 S2 (ff1.trans ff2) (k1.trans k2) (o2.trans o1) (.int _)⟩
  | _ => exact False.elim q1
end
section
variable (ds : List D) (y : D) (ρ : Rho) (Q : D → Rho → Zs → Prop) (X : Er → Rho → Zs → Prop) (z : Zs)
@[simp] theorem fIdx_a (me : E D) : fIdx me (.lst ds) ρ Q X z = me ρ (fun y ρ' z' => dIdx ds y fun d => Q d ρ' z') X z := propext Iff.rfl
end
end DL

namespace DL
open PySem PySem.Spec PyProof.Rows L2
section
variable {X : Cx} {C : CC} {W : WX} {a b : Expr} {pos : Pos} {k : Nat} {x y : Str}
/-! ## a, b = [..], [..]: two own lists -/
def sParOO (i j : Nat) (mo mp : E (List D)) : E Fl := eb mo fun ds => eb mp fun es ρ Q _ z => Q .nx ((ρ.set i (.own ds)).set j (.own es)) z
theorem xs_parOO (i j : Nat) {px py pt : Pos} {kt k2 pt2} {mo mp : E (List D)} (kx : Kx X C W k) (hi : X.N[i]? = some x) (hj : X.N[j]? = some y) (hij : i ≠ j)
    (hx : X.env.scope.names.lookup x = some .local) (hy : X.env.scope.names.lookup y = some .local) (ha : XO X C W a mo) (hb : ∀ q, XO X (C.hide q) W b mp)
    (hw : swappedStores [.Tuple [.Name x px, .Name y py] kt pt] (.Tuple [a, b] k2 pt2) X.env = pure (some [x, y]))
    (hs : swapsWithSole [.Tuple [.Name x px, .Name y py] kt pt] (.Tuple [a, b] k2 pt2) pos.line X.env = pure false := by rfl) (hp : starEach (a :: [b]) X.env = (false, eval a X.env) :: starEach [b] X.env := by rfl) (h1 : S1 X b := by rfl) :
    XS X C W (.Assign [.Tuple [.Name x px, .Name y py] kt pt] (.Tuple [a, b] k2 pt2) pos) (sParOO i j mo mp) := by
  obtain ⟨ta, a1, a2⟩ := ha.ex
  let tU : TE := fun σ H Q => ∀ q : Addr, ∃ t, PE X b t ∧ t σ H Q
  have pU : PE X b tU := ⟨fun pins s σ H Q I h => by
    obtain ⟨t, g1, g2⟩ := h 0
    exact g1.run pins s σ H Q I g2⟩
  refine ⟨_, ps_par kx.calm kx.nd hi hj hij hx hy (pa2 a1 pU hp h1) hw hs, fun σ ρ F H z Qd Xd Dn S hm hq hxx => ?_⟩
  refine a2 σ ρ F H z _ Xd (fun u H1 => tU σ H1 fun v H2 => ∃ v' w', ([u, v] : List V) = [v', w'] ∧ Dn.nx ((σ.set i (some v')).set j (some w')) H2) S hm (fun ds ρ1 z1 u F1 H1 q1 S1 ff1 k1 o1 ⟨q, xs, e1, e2, e3, e4, e5, e6⟩ => ?_) (fun e ρ' z' cls dd F' H' q S' ff r => hxx e ρ' z' cls dd σ F' H' q S' ff r)
  subst e1
  intro _
  obtain ⟨tb, b1, b2⟩ := (hb q).ex
  have no1 := S.notOwn e4 o1
  have Sh := S1.hideO e3 e2 e5 no1
  refine ⟨tb, b1, b2 σ ρ1 F1 H1 z1 _ Xd _ Sh q1 (fun es ρ2 z2 v F2 H2 q2 S2 ff2 k2 o2 ⟨p, ys, g1, g2, g3, g4, g5, g6⟩ => ?_) (fun e ρ' z' cls dd F' H' q S' ff r => hxx e ρ' z' cls dd σ F' H' q S'.unhide (ff1.trans ff) r)⟩
  subst g1
  obtain ⟨f2, _, _⟩ := S2.hd q List.mem_cons_self
  have h2 : H2 q = some (.lst xs) := k2.ke q _ e2 e5 (nog e3)
  have npq : p ≠ q := fun w => by rw [w, e2] at g4; cases g4
  refine ⟨_, _, rfl, hq .nx _ z2 F2 H2 q2 (ff1.trans ff2) _ ?_⟩
  have Sf := S2.unhide.setO i h2 f2 (S.h0None e4 e5) e5 (RpL.mono ff2 e6) (S.notOwn e4 (o2.trans o1)) (S.notHid e4)
  refine Sf.setO j g2 g3 (Sh.h0None g4 g5) g5 g6 (fun l ys' r1 r2 => ?_) (S1.notHid g4)
  rcases get_set r1 with ⟨el, h, hl⟩ | ⟨hne, h⟩
  · rw [el] at r2
    rcases get_set r2 with ⟨_, w, _⟩ | ⟨hne, _⟩
    · cases w; exact npq rfl
    · exact hne rfl
  · rw [List.getElem?_set_ne (Ne.symm hne)] at r2
    exact Sh.notOwn g4 o2 l ys' h r2
end
@[simp] theorem sParOO_a (i j : Nat) (mo mp : E (List D)) (ρ : Rho) (Q : Fl → Rho → Zs → Prop) (X : Er → Rho → Zs → Prop) (z : Zs) : sParOO i j mo mp ρ Q X z = mo ρ (fun ds ρ1 z1 => mp ρ1 (fun es ρ2 z2 => Q .nx ((ρ2.set i (.own ds)).set j (.own es)) z2) X z1) X z := propext Iff.rfl
end DL

namespace DL
open PySem PySem.Spec PyProof.Rows L2
/-! ## o.m(..) and o(..), o an object of an own class -/
theorem look_out {ns : List Str} {xs : List V} {m : Str} (h : m ∉ ns) : (ns.zip xs).lookup m = none := by
  induction ns generalizing xs with
  | nil => rfl
  | cons a r ih =>
    cases xs with
    | nil => rfl
    | cons x xs =>
      rw [List.zip_cons_cons, List.lookup_cons]
      have : (m == a) = false := by
        cases w : m == a with
        | false => rfl
        | true => exact absurd (beq_iff_eq.mp w) fun q => h (by rw [q]; exact List.mem_cons_self)
      rw [this]
      exact ih fun q => h (List.mem_cons_of_mem _ q)
section
variable {X : Cx} {C : CC} {W : WX} {o e fe : Expr} {es : List Expr} {k j n N : Nat} {m c : Str} {A g : Addr} {fd : FuncData} {ps : List Str} {sp : Sp} {ta : TE} {t : TA} {apos pos : Pos}
def tMG (A : Addr) (m : Str) (n : Nat) (sp : Sp) (W : WX) (ta : TE) (t : TA) : TE := fun σ H Q => ta σ H fun x H1 => ∃ a dx fs, x = .ref a ∧ H1 a = some (.ins A dx fs) ∧ fs.lookup m = none ∧ t σ H1 fun vs H2 => vs.length + 1 = n ∧ sp (.ref a :: vs) H2 Q (WE W σ)
theorem pe_methG {pl : Sem Bool} (he : PE X o ta) (c : Cls X.K A) (hm : Meth X.K A m g) (F : FnG X.prog X.w X.K X.mg X.base j g fd ps sp) (hb : BG X.K fd ps [] n gL gL) (kx : Kx X C W k) (hj : j ≤ k) (ha : PA X (e :: es) t)
    (hst : starEach (e :: es) X.env = (false, eval e X.env) :: starEach es X.env := by rfl) (hpl : (backTo pos (starEach es X.env)).any (·.1) = false := by rfl)
    (ht : eval (.Call (.Attribute o m apos) (e :: es) [] pos) X.env = (do
      let ov ← eval o X.env
      standAt apos.atName
      let (f, first) ← holding [ov] (getMethod ov m pl)
      callWith pos f first (backTo pos (starEach (e :: es) X.env)) (backToKw pos (keywordEach [] X.env))) := by rfl) :
    PE X (.Call (.Attribute o m apos) (e :: es) [] pos) (tMG A m n sp W ta t) := by
  refine ⟨fun pins s σ H Q I h => ?_⟩
  refine PySem.W.methodCall_KW (pl := pl) (thn (he.run pins s σ H _ I h) fun u s1 ⟨x, H1, I1, rx, a, dx, fs, ex, ea, l, q⟩ => ?_) ht
  subst ex
  obtain rfl : u = Value.ref a := rx
  refine getmeth_ok I1 ea c hm l ?_
  refine PySem.W.callWith_K (first := [.ref a]) (h₀ := X.base) I.ok.mod.kin hm.kp (thn (ha.run pos pins s1 σ H1 _ I1 q) fun us s2 ⟨vs, H2, I2, r, l2, q2⟩ => ⟨I2.kIn, ?_⟩) hst hpl
  exact run_g (us := .ref a :: us) (ws := []) (vs := .ref a :: vs) (zs := []) F kx hj hb I2 (.cons rfl r) .nil l2 rfl q2
theorem pe_methG0 {pl : Sem Bool} (he : PE X o ta) (c : Cls X.K A) (hm : Meth X.K A m g) (F : FnG X.prog X.w X.K X.mg X.base j g fd ps sp) (hb : BG X.K fd ps [] n gL gL) (kx : Kx X C W k) (hj : j ≤ k)
    (ht : eval (.Call (.Attribute o m apos) [] [] pos) X.env = (do
      let ov ← eval o X.env
      standAt apos.atName
      let (f, first) ← holding [ov] (getMethod ov m pl)
      callWith pos f first (backTo pos (starEach [] X.env)) (backToKw pos (keywordEach [] X.env))) := by rfl) :
    PE X (.Call (.Attribute o m apos) [] [] pos) (tMG A m n sp W ta tNil) := by
  refine ⟨fun pins s σ H Q I h => ?_⟩
  refine PySem.W.methodCall_KW (pl := pl) (thn (he.run pins s σ H _ I h) fun u s1 ⟨x, H1, I1, rx, a, dx, fs, ex, ea, l, q⟩ => ?_) ht
  subst ex
  obtain rfl : u = Value.ref a := rx
  refine getmeth_ok I1 ea c hm l ?_
  obtain ⟨l2, q2⟩ := q
  exact PySem.W.callWith_K0 (first := [.ref a]) I1.kIn hm.kp (run_g (us := [.ref a]) (ws := []) (vs := [.ref a]) (zs := []) F kx hj hb I1 (.cons rfl .nil) .nil l2 rfl q2)
/-- o(..) -/
def tCG1 (A : Addr) (n : Nat) (sp : Sp) (W : WX) (ta : TE) (t : TA) : TE := fun σ H Q => ta σ H fun x H1 => ∃ a, x = V.ref a ∧ t σ H1 fun vs H2 => (∃ dx fs, H2 a = some (.ins A dx fs)) ∧ vs.length + 1 = n ∧ sp (.ref a :: vs) H2 Q (WE W σ)
theorem run_callG {pins : List (Addr × Obj)} {σ : L2.St} {H : Hp} {s : Shared} {Q : VK} {a dx : Addr} {fs : List (Str × V)} {us : List Value} {vs : List V} (c : StX.CallO X.K A g) (F : FnG X.prog X.w X.K X.mg X.base j g fd ps sp) (hb : BG X.K fd ps [] n gL gL) (kx : Kx X C W k) (hj : j ≤ k) (I : Inv X pins σ H s)
    (hi : H a = some (.ins A dx fs)) (r : Vals vs us) (l : vs.length + 1 = n) (h : sp (.ref a :: vs) H Q (WE W σ)) : wpAny (model X.prog X.w) X.A (call (.ref a) us) (EP X pins σ Q) X.xe s := by
  obtain ⟨ox, od, J, hd⟩ := StX.insC_at I (.inr ⟨_, _, hi⟩)
  have rs : Vals (V.ref a :: vs) (Value.ref a :: us) := .cons rfl r
  obtain ⟨us', b, rr⟩ := hb.to s (.ref a :: us) [] I.kIn (rs.length.symm.trans l) rfl
  refine wpAny_call (PySem.W.kco_code I.kIn J hd c.at_ c.fn c.fi (codeAny_mono (F.run X.A X.stack s H ⟨.ref a :: us, []⟩ us' (V.ref a :: vs) Q (WE W σ) kx.gu (kx.room.mono hj) I.env0 b (rr _ _ rs .nil) h) fun r s' hq => ?_))
  cases r with
  | error e => exact passAt kx.tk σ pins H s e s' I hq
  | ok fl =>
    cases fl with
    | ret u => exact I.after hq
    | next => exact False.elim hq
    | brk => exact False.elim hq
    | cont => exact False.elim hq
theorem pe_callOG (hf : PE X fe ta) (c : StX.CallO X.K A g) (F : FnG X.prog X.w X.K X.mg X.base j g fd ps sp) (hb : BG X.K fd ps [] n gL gL) (kx : Kx X C W k) (hj : j ≤ k) (ha : PA X (e :: es) t)
    (ht : eval (.Call fe (e :: es) [] pos) X.env = (do callWith pos (← eval fe X.env) [] (backTo pos (starEach (e :: es) X.env)) (backToKw pos (keywordEach [] X.env))) := by rfl)
    (he : starEach (e :: es) X.env = (false, eval e X.env) :: starEach es X.env := by rfl) (hpl : (backTo pos (starEach es X.env)).any (·.1) = false := by rfl) : PE X (.Call fe (e :: es) [] pos) (tCG1 A n sp W ta t) := by
  refine ⟨fun pins s σ H Q I h => ?_⟩
  refine Call_ (thn (hf.run pins s σ H _ I h) fun u s1 ⟨y, H1, I1, ry, a, ey, q⟩ => ?_) ht
  subst ey
  obtain rfl : u = Value.ref a := ry
  refine StX.callO_with (thn (ha.run pos pins s1 σ H1 _ I1 q) fun us s2 ⟨vs, H2, I2, r, ⟨dx, fs, hi⟩, l, q2⟩ => ?_) he hpl
  obtain ⟨ox, od, J, hd⟩ := StX.insC_at I2 (.inr ⟨_, _, hi⟩)
  exact ⟨⟨A, ox, od, J, hd⟩, run_callG c F hb kx hj I2 hi r l q2⟩
/-- what o.m(..) does -/
def fMeth {α : Type} (c m : Str) (n : Nat) (mm : List D → E0 α) (ma : E (List D)) (d : D) : E α := fun ρ Q X z => (∃ ns fs, d = .ins c ns fs ∧ m ∉ ns) ∧ ma ρ (fun ds ρ' z' => ds.length + 1 = n ∧ e0 (mm (d :: ds)) ρ' Q X z') X z
abbrev eMeth {α : Type} (c m : Str) (n : Nat) (mm : List D → E0 α) (mo : E D) (ma : E (List D)) : E α := eb mo fun d => fMeth c m n mm ma d
theorem den_methF {mm : List D → E0 D} {mo : E D} {ma : E (List D)} (kx : Kx X C W k) (hm : X.mg c = some (.ref A)) (ho : Den C W ta mo (kR C)) (ha : Den C W t ma (kL C)) : Den C W (tMG A m n (spF X.K X.mg n mm) W ta t) (eMeth c m n mm mo ma) (kR C) := by
  refine Den.bind (u := fun x σ H Q => ∃ a dx fs, x = V.ref a ∧ H a = some (.ins A dx fs) ∧ fs.lookup m = none ∧ t σ H fun vs H2 => vs.length + 1 = n ∧ spF X.K X.mg n mm (.ref a :: vs) H2 Q (WE W σ)) back_R ho ?_
  intro H0 σ ρ F H z d x Qd Xd Q S ra hm' hq hx
  obtain ⟨⟨ns, ds, rfl, hn⟩, hm'⟩ := hm'
  obtain ⟨o, dx, xs, rfl, e2, l, r⟩ := Rp.insAt (by rw [← kx.hmg]; exact hm) ra
  refine ⟨o, dx, _, rfl, S.sub _ _ e2 ngI, look_out hn, ?_⟩
  refine ha σ ρ F H z _ Xd _ S hm' (fun es ρ2 z2 vs F2 H2 q2 S2 ff2 k2 o2 rb => ?_) hx
  obtain ⟨q1, q4⟩ := q2
  have rr : C.RL F2 (V.ref o :: vs) (.ins c ns ds :: es) := .cons (Rp.mono ff2 ra) rb
  refine ⟨by rw [RpL.length rb]; exact q1, by rw [List.length_cons, RpL.length rb]; exact q1, C.pa, F2, z2, _, _, _, S2.sub, ⟨S2.pz, by rw [kx.hK, kx.hmg]; exact S2.cs⟩, by rw [kx.hK, kx.hmg]; exact rr, q4, fun d z' v F' H' q' a r => ?_, fun e z' cls dd F' H' q' a r => ?_⟩
  · rw [kx.hK, kx.hmg] at r a
    exact hq d ρ2 z' v F' H' q' (S2.call a) (ff2.trans a.1) (k2.trans a.2.2.1) o2 r
  · rw [kx.hK, kx.hmg] at r a
    exact hx e ρ2 z' cls dd F' H' q' (S2.call a) (ff2.trans a.1) r
theorem den_methO {mm : List D → E0 (List D)} {mo : E D} {ma : E (List D)} (kx : Kx X C W k) (hm : X.mg c = some (.ref A)) (ho : Den C W ta mo (kR C)) (ha : Den C W t ma (kL C)) : Den C W (tMG A m n (spO X.K X.mg n mm) W ta t) (eMeth c m n mm mo ma) (RO C) := by
  refine Den.bind (u := fun x σ H Q => ∃ a dx fs, x = V.ref a ∧ H a = some (.ins A dx fs) ∧ fs.lookup m = none ∧ t σ H fun vs H2 => vs.length + 1 = n ∧ spO X.K X.mg n mm (.ref a :: vs) H2 Q (WE W σ)) back_O ho ?_
  intro H0 σ ρ F H z d x Qd Xd Q S ra hm' hq hx
  obtain ⟨⟨ns, ds, rfl, hn⟩, hm'⟩ := hm'
  obtain ⟨o, dx, xs, rfl, e2, l, r⟩ := Rp.insAt (by rw [← kx.hmg]; exact hm) ra
  refine ⟨o, dx, _, rfl, S.sub _ _ e2 ngI, look_out hn, ?_⟩
  refine ha σ ρ F H z _ Xd _ S hm' (fun es ρ2 z2 vs F2 H2 q2 S2 ff2 k2 o2 rb => ?_) hx
  obtain ⟨q1, q4⟩ := q2
  have rr : C.RL F2 (V.ref o :: vs) (.ins c ns ds :: es) := .cons (Rp.mono ff2 ra) rb
  refine ⟨by rw [RpL.length rb]; exact q1, by rw [List.length_cons, RpL.length rb]; exact q1, C.pa, F2, z2, _, _, _, S2.sub, ⟨S2.pz, by rw [kx.hK, kx.hmg]; exact S2.cs⟩, by rw [kx.hK, kx.hmg]; exact rr, q4, fun d z' a xs F' H' q' af e1 e2 e3 e4 r => ?_, fun e z' cls dd F' H' q' a r => ?_⟩
  · rw [kx.hK, kx.hmg] at r af
    refine hq d ρ2 z' _ F' H' q' (S2.call af) (ff2.trans af.1) (k2.trans af.2.2.1) o2 ?_
    exact back_O (C := C) H H2 F' H' (.ref a) d k2.dm ⟨a, xs, rfl, e1, e2, e3, e4, r⟩
  · rw [kx.hK, kx.hmg] at r a
    exact hx e ρ2 z' cls dd F' H' q' (S2.call a) (ff2.trans a.1) r
/-- what o(..) does -/
def fCallO {α : Type} (c : Str) (n : Nat) (mm : List D → E0 α) (ma : E (List D)) (d : D) : E α := fun ρ Q X z => (∃ ns fs, d = .ins c ns fs) ∧ ma ρ (fun ds ρ' z' => ds.length + 1 = n ∧ e0 (mm (d :: ds)) ρ' Q X z') X z
abbrev eCallO {α : Type} (c : Str) (n : Nat) (mm : List D → E0 α) (mo : E D) (ma : E (List D)) : E α := eb mo fun d => fCallO c n mm ma d
theorem den_callOF {mm : List D → E0 D} {mo : E D} {ma : E (List D)} (kx : Kx X C W k) (hm : X.mg c = some (.ref A)) (ho : Den C W ta mo (kR C)) (ha : Den C W t ma (kL C)) : Den C W (tCG1 A n (spF X.K X.mg n mm) W ta t) (eCallO c n mm mo ma) (kR C) := by
  refine Den.bind (u := fun x σ H Q => ∃ a, x = V.ref a ∧ t σ H fun vs H2 => (∃ dx fs, H2 a = some (.ins A dx fs)) ∧ vs.length + 1 = n ∧ spF X.K X.mg n mm (.ref a :: vs) H2 Q (WE W σ)) back_R ho ?_
  intro H0 σ ρ F H z d x Qd Xd Q S ra hm' hq hx
  obtain ⟨⟨ns, ds, rfl⟩, hm'⟩ := hm'
  obtain ⟨o, dx, xs, rfl, e2, l, r⟩ := Rp.insAt (by rw [← kx.hmg]; exact hm) ra
  refine ⟨o, rfl, ?_⟩
  refine ha σ ρ F H z _ Xd _ S hm' (fun es ρ2 z2 vs F2 H2 q2 S2 ff2 k2 o2 rb => ?_) hx
  obtain ⟨q1, q4⟩ := q2
  have ra2 : C.R F2 (V.ref o) (.ins c ns ds) := Rp.mono ff2 ra
  obtain ⟨o', dx', xs', eo, e3, l', r'⟩ := Rp.insAt (by rw [← kx.hmg]; exact hm) ra2
  cases eo
  have rr : C.RL F2 (V.ref o :: vs) (.ins c ns ds :: es) := .cons ra2 rb
  refine ⟨⟨_, _, S2.sub _ _ e3 ngI⟩, by rw [RpL.length rb]; exact q1, by rw [List.length_cons, RpL.length rb]; exact q1, C.pa, F2, z2, _, _, _, S2.sub, ⟨S2.pz, by rw [kx.hK, kx.hmg]; exact S2.cs⟩, by rw [kx.hK, kx.hmg]; exact rr, q4, fun d z' v F' H' q' a r => ?_, fun e z' cls dd F' H' q' a r => ?_⟩
  · rw [kx.hK, kx.hmg] at r a
    exact hq d ρ2 z' v F' H' q' (S2.call a) (ff2.trans a.1) (k2.trans a.2.2.1) o2 r
  · rw [kx.hK, kx.hmg] at r a
    exact hx e ρ2 z' cls dd F' H' q' (S2.call a) (ff2.trans a.1) r
section
variable {mo : E D} {ma : E (List D)} {mF : List D → E0 D} {mO : List D → E0 (List D)} {pl : Sem Bool}
theorem xe_meth (G : GM X j g fd ps (spF X.K X.mg n mF)) (kx : Kx X C W k) (hj : j ≤ k) (hmg : X.mg c = some (.ref A)) (hc : Cls X.K A) (hm : Meth X.K A m g) (ho : XE X C W o mo) (ha : XA X C W (e :: es) ma)
    (hst : starEach (e :: es) X.env = (false, eval e X.env) :: starEach es X.env := by rfl) (hpl : (backTo pos (starEach es X.env)).any (·.1) = false := by rfl)
    (ht : eval (.Call (.Attribute o m apos) (e :: es) [] pos) X.env = (do
      let ov ← eval o X.env
      standAt apos.atName
      let (f, first) ← holding [ov] (getMethod ov m pl)
      callWith pos f first (backTo pos (starEach (e :: es) X.env)) (backToKw pos (keywordEach [] X.env))) := by rfl) (hn : ps.length = n := by rfl) : XE X C W (.Call (.Attribute o m apos) (e :: es) [] pos) (eMeth c m n mF mo ma) := by
  subst hn
  obtain ⟨t1, h1, h2⟩ := ho.ex
  obtain ⟨t2, g1, g2⟩ := ha.ex
  exact ⟨_, pe_methG h1 hc hm G.fn G.bg kx hj g1 hst hpl ht, den_methF kx hmg h2 g2⟩
theorem xo_meth (G : GM X j g fd ps (spO X.K X.mg n mO)) (kx : Kx X C W k) (hj : j ≤ k) (hmg : X.mg c = some (.ref A)) (hc : Cls X.K A) (hm : Meth X.K A m g) (ho : XE X C W o mo) (ha : XA X C W (e :: es) ma)
    (hst : starEach (e :: es) X.env = (false, eval e X.env) :: starEach es X.env := by rfl) (hpl : (backTo pos (starEach es X.env)).any (·.1) = false := by rfl)
    (ht : eval (.Call (.Attribute o m apos) (e :: es) [] pos) X.env = (do
      let ov ← eval o X.env
      standAt apos.atName
      let (f, first) ← holding [ov] (getMethod ov m pl)
      callWith pos f first (backTo pos (starEach (e :: es) X.env)) (backToKw pos (keywordEach [] X.env))) := by rfl) (hn : ps.length = n := by rfl) : XO X C W (.Call (.Attribute o m apos) (e :: es) [] pos) (eMeth c m n mO mo ma) := by
  subst hn
  obtain ⟨t1, h1, h2⟩ := ho.ex
  obtain ⟨t2, g1, g2⟩ := ha.ex
  exact ⟨_, pe_methG h1 hc hm G.fn G.bg kx hj g1 hst hpl ht, den_methO kx hmg h2 g2⟩
theorem xe_meth0 (G : GM X j g fd ps (spF X.K X.mg n mF)) (kx : Kx X C W k) (hj : j ≤ k) (hmg : X.mg c = some (.ref A)) (hc : Cls X.K A) (hm : Meth X.K A m g) (ho : XE X C W o mo)
    (ht : eval (.Call (.Attribute o m apos) [] [] pos) X.env = (do
      let ov ← eval o X.env
      standAt apos.atName
      let (f, first) ← holding [ov] (getMethod ov m pl)
      callWith pos f first (backTo pos (starEach [] X.env)) (backToKw pos (keywordEach [] X.env))) := by rfl) (hn : ps.length = n := by rfl) : XE X C W (.Call (.Attribute o m apos) [] [] pos) (eMeth c m n mF mo (ep [])) := by
  subst hn
  obtain ⟨t1, h1, h2⟩ := ho.ex
  exact ⟨_, pe_methG0 h1 hc hm G.fn G.bg kx hj ht, den_methF kx hmg h2 (fun σ ρ F H z Qd Xd Q S hm hq hx => S.same (R := kL C) hm .nil hq)⟩
theorem xo_meth0 (G : GM X j g fd ps (spO X.K X.mg n mO)) (kx : Kx X C W k) (hj : j ≤ k) (hmg : X.mg c = some (.ref A)) (hc : Cls X.K A) (hm : Meth X.K A m g) (ho : XE X C W o mo)
    (ht : eval (.Call (.Attribute o m apos) [] [] pos) X.env = (do
      let ov ← eval o X.env
      standAt apos.atName
      let (f, first) ← holding [ov] (getMethod ov m pl)
      callWith pos f first (backTo pos (starEach [] X.env)) (backToKw pos (keywordEach [] X.env))) := by rfl) (hn : ps.length = n := by rfl) : XO X C W (.Call (.Attribute o m apos) [] [] pos) (eMeth c m n mO mo (ep [])) := by
  subst hn
  obtain ⟨t1, h1, h2⟩ := ho.ex
  exact ⟨_, pe_methG0 h1 hc hm G.fn G.bg kx hj ht, den_methO kx hmg h2 (fun σ ρ F H z Qd Xd Q S hm hq hx => S.same (R := kL C) hm .nil hq)⟩
theorem evalCallName (x : Str) (p : Pos) (e : Expr) (es : List Expr) (pos : Pos) (env : PySem.Env) : eval (.Call (.Name x p) (e :: es) [] pos) env = (do callWith pos (← eval (.Name x p) env) [] (backTo pos (starEach (e :: es) env)) (backToKw pos (keywordEach [] env))) := by rfl
theorem xe_callO {x : Str} {p2 : Pos} (G : GM X j g fd ps (spF X.K X.mg n mF)) (kx : Kx X C W k) (hj : j ≤ k) (hmg : X.mg c = some (.ref A)) (hc : StX.CallO X.K A g) (ho : XE X C W (.Name x p2) mo) (ha : XA X C W (e :: es) ma)
    (he : starEach (e :: es) X.env = (false, eval e X.env) :: starEach es X.env := by rfl) (hpl : (backTo pos (starEach es X.env)).any (·.1) = false := by rfl) (hn : ps.length = n := by rfl) : XE X C W (.Call (.Name x p2) (e :: es) [] pos) (eCallO c n mF mo ma) := by
  subst hn
  obtain ⟨t1, h1, h2⟩ := ho.ex
  obtain ⟨t2, g1, g2⟩ := ha.ex
  exact ⟨_, pe_callOG h1 hc G.fn G.bg kx hj g1 (evalCallName x p2 e es pos X.env) he hpl, den_callOF kx hmg h2 g2⟩
end
end
end DL

namespace DL
open PySem PySem.Spec PyProof.Rows L2
/-! ## an __init__ of two fields -/
def dN2 (n : Nat) (me mf : E D) : List D → E0 (List D) := fun ds Q X z => me (.no :: rho0 n ds) (fun d ρ z => mf ρ (fun d2 _ z => Q [d, d2] z) (fun _ _ _ => False) z) (fun e _ z => X e z) z
theorem rho0_own {n : Nat} {ds : List D} {i : Nat} {xs : List D} (h : (Sl.no :: rho0 n ds)[i]? = some (.own xs)) : False := by
  cases i with
  | zero => cases h
  | succ i =>
    have e3 : (rho0 n ds)[i]? = some (.own xs) := h
    unfold rho0 at e3
    by_cases hi : i < ds.length
    · rw [List.getElem?_append_left (by simpa using hi), List.getElem?_map] at e3
      cases q : ds[i]? with
      | none => rw [q] at e3; cases e3
      | some u => rw [q] at e3; cases e3
    · rw [List.getElem?_append_right (by simp; omega), List.getElem?_replicate] at e3
      split at e3 <;> cases e3
theorem fnN2_of {P : Program} {w : World} {K : PySem.W.Frag} {mg : Str → Option Value} {base : Heap} {k : Nat} {fa : Addr} {x qual g g' : Str} {params : Arguments} {body : List Stmt} {scope : Scope} {dvs : List V} {kws : List (Str × V)} {fd : FuncData} {N ps : List Str} {me mf : E D} {ex ex' : Expr} {q1 q2 q3 r1 r2 r3 : Pos}
    (F : FunD K x qual params body scope dvs kws fa fd) (S : FnScope ("self" :: N) ("self" :: ps) scope) (hbd : body = [.Assign [.Attribute (.Name "self" q1) g q2] ex q3, .Assign [.Attribute (.Name "self" r1) g' r2] ex' r3]) (hne : g ≠ g')
    (hv : ∀ (q : Pos) (cdv : Value) (A : Around) (outer : List PySem.Env) (s : Shared) (H : Hp) (E : XK), PE (cxG P w K mg base ("self" :: N) qual scope fa cdv A outer s H E) (.Name "self" q) (tVar 0))
    (hs : ∀ (cdv : Value) (A : Around) (outer : List PySem.Env) (s : Shared) (H : Hp) (E : XK), swapsWith ex (some (.Attribute (.Name "self" q1) g q2)) q3.line (cxG P w K mg base ("self" :: N) qual scope fa cdv A outer s H E).env = pure false)
    (hs' : ∀ (cdv : Value) (A : Around) (outer : List PySem.Env) (s : Shared) (H : Hp) (E : XK), swapsWith ex' (some (.Attribute (.Name "self" r1) g' r2)) r3.line (cxG P w K mg base ("self" :: N) qual scope fa cdv A outer s H E).env = pure false)
    (hbody : ∀ (cdv : Value) (A : Around) (outer : List PySem.Env) (s : Shared) (H : Hp) (E : XK) (pa : Option Addr) (F0 H0 : Hp) (a : Addr), Kx (cxG P w K mg base ("self" :: N) qual scope fa cdv A outer s H E) ⟨K, mg, pa, F0, H0, [a]⟩ (wE E) k →
      XE (cxG P w K mg base ("self" :: N) qual scope fa cdv A outer s H E) ⟨K, mg, pa, F0, H0, [a]⟩ (wE E) ex me)
    (hbody' : ∀ (cdv : Value) (A : Around) (outer : List PySem.Env) (s : Shared) (H : Hp) (E : XK) (pa : Option Addr) (F0 H0 : Hp) (a : Addr), Kx (cxG P w K mg base ("self" :: N) qual scope fa cdv A outer s H E) ⟨K, mg, pa, F0, H0, [a]⟩ (wE E) k →
      XE (cxG P w K mg base ("self" :: N) qual scope fa cdv A outer s H E) ⟨K, mg, pa, F0, H0, [a]⟩ (wE E) ex' mf) : FnG P w K mg base (k + 1) fa fd ("self" :: ps) (spN K mg [g, g'] ps.length (dN2 N.length me mf)) := by
  refine fnG_of F S (fun vs H Q E h => h.1) fun cdv A outer s H vs Q E hg hr h => ?_
  obtain ⟨hl, a, C0, dx, args, pa, F0, z, ds, Qd, Xd, rfl, e0, hf, np, hc, hn, sub, pz, r, hm, hq, hx⟩ := h
  have kx0 := kx_of (P := P) (w := w) (K := K) (mg := mg) (base := base) (E := E) (pa := pa) (F := F0) (outer := outer) (H := H) S hg hr
  have kx : ∀ F0 H0 : Hp, Kx (cxG P w K mg base ("self" :: N) qual scope fa cdv A outer s H E) ⟨K, mg, pa, F0, H0, [a]⟩ (wE E) k := fun _ _ => ⟨kx0.hK, kx0.hmg, kx0.calm, kx0.gu, kx0.room, kx0.tk, kx0.nd, kx0.po⟩
  obtain ⟨t, h1, h2⟩ := (hbody cdv A outer s H E pa F0 H a (kx F0 H)).ex
  let t2 : TE := fun σ H' Q => ∃ t, PE (cxG P w K mg base ("self" :: N) qual scope fa cdv A outer s H E) ex' t ∧ t σ H' Q
  have g1 : PE (cxG P w K mg base ("self" :: N) qual scope fa cdv A outer s H E) ex' t2 := ⟨fun pins s σ H' Q I h => by
    obtain ⟨t, u1, u2⟩ := h
    exact u1.run pins s σ H' Q I u2⟩
  have hnl : args.length ≤ N.length := by
    have := congrArg List.length S.pre
    rw [List.length_take] at this
    simp only [List.length_cons] at this hl
    omega
  have S0 : StOk ⟨K, mg, pa, F0, H, [a]⟩ (L2.start ("self" :: N) (.ref a :: args)) (.no :: rho0 N.length ds) F0 H z := by
    have s1 := start_ok (K := K) (mg := mg) (N := N) sub pz r hnl
    have s2 : StOk ⟨K, mg, pa, F0, H, []⟩ (some (.ref a) :: L2.start N args) (.no :: rho0 N.length ds) F0 H z := s1.cons
    have es : L2.start ("self" :: N) (.ref a :: args) = some (.ref a) :: L2.start N args := by
      unfold L2.start
      simp
    rw [es]
    refine ⟨s2.sub, s2.f0, s2.h0, s2.nw, s2.len, fun i v sl e1 e2 => ?_, s2.apart, s2.pz, fun b hb => ?_, s2.cs⟩
    · have := s2.env i v sl e1 e2
      cases sl with
      | no => cases v <;> trivial
      | fr d =>
        cases v with
        | none => exact this.elim
        | some v => exact this
      | own xs => exact (rho0_own e2).elim
    · cases hb with
      | head => exact ⟨hf, ⟨_, e0⟩, np⟩
      | tail _ h => cases h
  subst hbd
  refine ⟨_, pss_cons (ps_fld (hv _ cdv A outer s H E) h1 (hs cdv A outer s H E)) (pss_one (ps_fld (hv _ cdv A outer s H E) g1 (hs' cdv A outer s H E))), ?_⟩
  refine h2 _ _ F0 H z _ _ _ S0 hm (fun d ρ' z' v F' H' q S' ff k' o' r' => ?_) (fun e ρ' z' cls dd F' H' q S' ff r' => hx e z' cls dd F' H' q ⟨S'.f0, S'.sub, S'.h0, S'.nw, S'.pz, S'.cs⟩ r')
  have h3 : H' a = some (.ins C0 dx []) := k'.ke a _ e0 np (nog hf)
  have h4 : F' a = none := (S'.hd a List.mem_cons_self).1
  have v0 : (L2.start ("self" :: N) (.ref a :: args))[0]? = some (some (.ref a)) := by
    unfold L2.start
    rfl
  refine ⟨.ref a, v0, a, C0, dx, [], rfl, h3, hc, hn g List.mem_cons_self, by decide, ?_⟩
  have pf : putF g v ([] : List (Str × V)) = [(g, v)] := rfl
  rw [pf]
  have nown : ∀ (i : Nat) xs, ρ'[i]? = some (.own xs) → False := fun i xs e => by
    obtain ⟨ys, e'⟩ := o' i xs e
    exact rho0_own e'
  have pna : ∀ p, pa = some p → p ≠ a := fun p hp e => np (by rw [hp, e])
  have S2 : StOk ⟨K, mg, pa, F', upd H' a (.ins C0 dx [(g, v)]), [a]⟩ (L2.start ("self" :: N) (.ref a :: args)) ρ' F' (upd H' a (.ins C0 dx [(g, v)])) z' := by
    refine ⟨Sub.updR S'.sub h4, Same.refl _, Keep.refl, fun b e1 e2 => absurd e2 e1, S'.len, fun i v sl e1 e2 => ?_, S'.apart, fun p hp => ?_, fun b hb => ?_, ?_⟩
    · have := S'.env i v sl e1 e2
      cases sl with
      | no => cases v <;> trivial
      | fr d =>
        cases v with
        | none => exact this.elim
        | some v => exact this
      | own xs => exact (nown i xs e2).elim
    · obtain ⟨p1, x, y, p2, p3⟩ := S'.pz p hp
      exact ⟨p1, x, y, by rw [upd_ne (pna p hp)]; exact p2, p3⟩
    · cases hb with
      | head => exact ⟨h4, ⟨_, upd_same⟩, np⟩
      | tail _ h => cases h
    · exact S'.cs.grow (Same.refl _) (fun _ _ e => e) fun b k w e1 e2 => by rw [upd_ne (ne_of_none e1 h4)]; exact e2
  obtain ⟨t', u1, u2⟩ := (hbody' cdv A outer s H E pa F' (upd H' a (.ins C0 dx [(g, v)])) a (kx F' _)).ex
  refine ⟨t', u1, ?_⟩
  refine u2 _ _ F' _ z' _ _ _ S2 q (fun d2 ρ2 z2 v2 F2 H2 q2 S3 ff2 k2 o2 r2 => ?_) (fun e ρ2 z2 cls dd F2 H2 q2 S3 ff2 r2 => False.elim q2)
  have h5 : H2 a = some (.ins C0 dx [(g, v)]) := k2.ke a _ upd_same np (nog h4)
  have h6 : F2 a = none := (S3.hd a List.mem_cons_self).1
  refine ⟨.ref a, v0, a, C0, dx, [(g, v)], rfl, h5, hc, hn g' (List.mem_cons_of_mem _ List.mem_cons_self), (by simp), ?_⟩
  have pf2 : putF g' v2 [(g, v)] = [g, g'].zip [v, v2] := by
    have : ¬ g = g' := hne
    simp [putF, this]
  rw [pf2]
  have eu : upd H2 a (.ins C0 dx ([g, g'].zip [v, v2])) = upd (upd H2 a (.ins C0 dx [])) a (.ins C0 dx ([g, g'].zip [v, v2])) := upd_upd.symm
  rw [eu]
  have back : ∀ b, b ≠ a → (H b ≠ none → upd H' a (.ins C0 dx [(g, v)]) b ≠ none) := fun b hb e => by rw [upd_ne hb]; exact S'.h0.dm b e
  refine hq [d, d2] z2 [v, v2] F2 (upd H2 a (.ins C0 dx [])) q2 ⟨S'.f0.trans S3.f0, Sub.updR S3.sub h6, ⟨fun b o hb np' ng => ?_, fun b kk e => ?_, fun b e => ?_⟩, fun b e1 e2 => ?_, fun p hp => ?_, ?_⟩ h6 rfl (.cons (Rp.mono ff2 r') (.cons r2 .nil))
  · by_cases w : b = a
    · rw [w] at hb ⊢; rw [e0] at hb; cases hb; exact upd_same
    · rw [upd_ne w]
      have hb1 := S'.h0.ke b o hb np' ng
      refine S3.h0.ke b o (show upd H' a _ b = some o by rw [upd_ne w]; exact hb1) np' fun kk e => ?_
      rcases S'.h0.gn b kk e with e' | e'
      · exact ng kk e'
      · have e' : H b = none := e'
        rw [hb] at e'; cases e'
  · rcases S3.h0.gn b kk e with e' | e'
    · exact S'.h0.gn b kk e'
    · have e' : upd H' a (.ins C0 dx [(g, v)]) b = none := e'
      by_cases w : b = a
      · rw [w, upd_same] at e'; cases e'
      · rw [upd_ne w] at e'
        refine .inr ?_
        show H b = none
        cases hb : H b with
        | none => rfl
        | some o => exact absurd e' (S'.h0.dm b (show H b ≠ none by rw [hb]; exact fun x => nomatch x))
  · by_cases w : b = a
    · rw [w, upd_same]; exact fun x => nomatch x
    · rw [upd_ne w]
      exact S3.h0.dm b (back b w e)
  · cases hb : F' b with
    | some o => exact S'.nw b (by rw [hb]; exact fun x => nomatch x) e2
    | none =>
      have e3 : upd H' a (.ins C0 dx [(g, v)]) b = none := S3.nw b e1 hb
      by_cases w : b = a
      · rw [w, upd_same] at e3; cases e3
      · rw [upd_ne w] at e3
        cases hb2 : H b with
        | none => rfl
        | some o => exact absurd e3 (S'.h0.dm b (show H b ≠ none by rw [hb2]; exact fun x => nomatch x))
  · obtain ⟨p1, x, y, p2, p3⟩ := S3.pz p hp
    exact ⟨p1, x, y, by rw [upd_ne (pna p hp)]; exact p2, p3⟩
  · exact S3.cs.grow (Same.refl _) (fun _ _ e => e) fun b k w e1 e2 => by rw [upd_ne (ne_of_none e1 h6)]; exact e2
end DL

namespace DL
open PySem PySem.Spec PyProof.Rows L2
/-! ## b.pop() of a list that changes, the answer dropped -/
section
variable {X : Cx} {C : CC} {W : WX} {b : Expr} {mb : E D} {p1 p2 p3 : Pos} {k : Nat}
def fPopC : D → E Fl
  | .mc k => fun ρ Q _ z => ∃ ds, z.cs[k]? = some (.lst ds) ∧ ds ≠ [] ∧ Q .nx ρ { z with cs := z.cs.set k (.lst ds.dropLast) }
  | _ => eStuck
theorem xs_popC (hb : XE X C W b mb) (hbase : attributeBase b "pop" X.env (eval b X.env) = eval b X.env := by rfl) (hline : (p1.endLine == p2.line) = true := by rfl)
    (hs : swapsWith (.Call (.Attribute b "pop" p1) [] [] p2) none p3.line X.env = pure false := by rfl) : XS X C W (.Expr (.Call (.Attribute b "pop" p1) [] [] p2) p3) (eb mb fPopC) := by
  obtain ⟨u, u1, u2⟩ := hb.ex
  refine ⟨_, ps_expr (pe_bm0 PySem.F.plainAttrs_list F.slot_list_pop F.type_list_pop mt_pop u1 hbase hline) hs, fun σ ρ F H z Qd Xd Dn S hm' hq hx => ?_⟩
  refine u2 σ ρ F H z _ Xd _ S hm' (fun d ρ1 z1 v F1 H1 q1 S1 ff1 k1 o1 r1 => ?_) (fun e ρ' z' cls dd F' H' q S' ff r => hx e ρ' z' cls dd σ F' H' q S' ff r)
  cases d with
  | mc k =>
    cases r1 with
    | @mc l _ eg =>
      obtain ⟨ds, eq0, ne, q1⟩ := q1
      obtain ⟨o, c, e1, e2, e3⟩ := S1.cs.get eg
      rw [eq0] at e2
      cases e2
      obtain ⟨xs, rfl, r0⟩ := e3
      have l1 := RpL.length r0
      have l0 : 0 < ds.length := List.length_pos_iff.mpr ne
      have l2 : xs.length - 1 < xs.length := by omega
      refine ⟨.inl ⟨rfl, xs, .inl (.inl e1)⟩, l, xs, xs[xs.length - 1], rfl, rfl, e1, List.getElem?_eq_getElem l2, ?_⟩
      refine hq .nx _ _ F1 _ q1 ff1 σ (S1.setC (c := .lst ds.dropLast) eg ⟨xs.dropLast, rfl, ?_⟩)
      rw [List.dropLast_eq_take, List.dropLast_eq_take, l1]
      exact RpL.take _ r0
  | _ => exact False.elim q1
end
@[simp] theorem fPopC_a (k : Nat) (ρ : Rho) (Q : Fl → Rho → Zs → Prop) (X : Er → Rho → Zs → Prop) (z : Zs) : fPopC (.mc k) ρ Q X z = ∃ ds, z.cs[k]? = some (.lst ds) ∧ ds ≠ [] ∧ Q .nx ρ { z with cs := z.cs.set k (.lst ds.dropLast) } := propext Iff.rfl
end DL

namespace DL
open PySem PySem.Spec PyProof.Rows L2
/-! ## len(o), o an object of an own class -/
section
variable {X : Cx} {C : CC} {W : WX} {o : Expr} {k j : Nat} {c : Str} {A g : Addr} {fd : FuncData} {ps : List Str} {sp : Sp} {ta : TE} {p pos : Pos}
theorem run_lenO {pins : List (Addr × Obj)} {σ : L2.St} {H : Hp} {s : Shared} {Q : VK} {a dx : Addr} {fs : List (Str × V)} (hm : Meth X.K A "__len__" g) (G : GM X j g fd ps sp) (kx : Kx X C W k) (hj : j + 1 ≤ k) (h1 : ps.length = 1) (I : Inv X pins σ H s) (e0 : H a = some (.ins A dx fs))
    (h : sp [.ref a] H (fun v H' => ∃ n : Int, v = .int n ∧ 0 ≤ n ∧ n < 2 ^ 63 ∧ Q (.int n) H') (fun _ _ _ => False)) : wpAny (model X.prog X.w) X.A (call (.builtin "len") [.ref a]) (EP X pins σ Q) X.xe s := by
  obtain ⟨_, O, _⟩ := ins_get I.hok e0
  obtain ⟨_, J, _⟩ := O.look
  have hroom : Room (j + 1) X.A := kx.room.mono hj
  refine Calls.call_function_entry kind_len plain_len entry_len (args_len1 _) ?_
  unfold Builtin.«len»
  refine wpAny_bind (m := oneArg "len" _) (wpAny_pure ?_)
  obtain ⟨us', b1, b2⟩ := G.bg.to s [.ref a] [] I.kIn h1.symm rfl
  refine wpAny_bind (m := callSpecial? (.ref a) (Str.ofString "__len__")) (PySem.W.special_fn I.kIn J hm.at_ (beq_iff_eq.mp hm.fn) (wpAny_call ?_))
  refine codeAny_mono (G.fn.run X.A.in1 X.stack s H ⟨[.ref a], []⟩ us' [.ref a] _ (fun _ _ _ => False) kx.gu hroom.in1 I.env0.in1 b1 (b2 _ [] (.cons rfl .nil) .nil) h) fun r s' hq => ?_
  rcases r with er | fl
  · obtain ⟨_, _, _, _, _, _, _, _, _, _, _, _, hw⟩ := hq
    exact hw.elim
  · cases fl with
    | ret u =>
      obtain ⟨v, H', I3, rv, n, rfl, n0, n1, q3⟩ := I.after hq
      obtain ⟨t, rfl⟩ : ∃ t, u = Value.int n t := rv
      refine wpAny_bind (wpAny_holding (wpAny_pure ?_))
      refine wpAny_bind (wpAny_letGo ?_)
      show wpAny _ _ (if n < 0 then _ else _) _ _ _
      rw [if_neg (by omega)]
      show wpAny _ _ (if n ≥ 2 ^ 63 then _ else _) _ _ _
      rw [if_neg (by omega)]
      exact wpAny_bind (wpAny_mkInt (wpAny_pure ⟨_, rfl, V.int n, H', I3.tok _, ⟨_, rfl⟩, q3⟩))
    | _ => exact False.elim hq
def rLenO (A : Addr) (sp : Sp) : List V → Hp → VK → Prop := fun xs H Q => ∃ a dx fs, xs = [V.ref a] ∧ H a = some (.ins A dx fs) ∧ sp [.ref a] H (fun v H' => ∃ n : Int, v = .int n ∧ 0 ≤ n ∧ n < 2 ^ 63 ∧ Q (.int n) H') (fun _ _ _ => False)
theorem call_lenO (hm : Meth X.K A "__len__" g) (G : GM X j g fd ps sp) (kx : Kx X C W k) (hj : j + 1 ≤ k) (h1 : ps.length = 1) : CallR X (.builtin "len") (rLenO A sp) := by
  intro pins s σ H vs us Q I r h
  obtain ⟨a, dx, fs, rfl, e0, h⟩ := h
  rw [Vals.ref1 r]
  exact run_lenO hm G kx hj h1 I e0 h
def fLenO (c : Str) (m : List D → E0 D) (d : D) : E D := fun ρ Q _ z => (∃ ns ds, d = .ins c ns ds) ∧ m [d] (fun r z' => ∃ n : Int, r = .int n ∧ 0 ≤ n ∧ n < 2 ^ 63 ∧ Q (.int n) ρ z') (fun _ _ => False) z
theorem o_lenO {mF : List D → E0 D} (kx : Kx X C W k) (hmg : X.mg c = some (.ref A)) : Op1 C W (fun x H Q => rLenO A (spF X.K X.mg 1 mF) [x] H Q) (fLenO c mF) (kR C) := fun σ ρ F H z x dx Qd Xd Q S rx hm hq hx => by
  obtain ⟨⟨ns, ds, rfl⟩, hm⟩ := hm
  have rx' := RT.ins rx
  obtain ⟨o, dx, xs, rfl, e2, l, r⟩ := Rp.insAt (by rw [← kx.hmg]; exact hmg) rx'
  refine ⟨o, dx, _, rfl, S.sub _ _ e2 ngI, rfl, C.pa, F, z, [_], _, _, S.sub, ⟨S.pz, by rw [kx.hK, kx.hmg]; exact S.cs⟩, ?_, hm, fun d z' v F' H' q' a r => ?_, fun e z' cls dd F' H' q' a r => q'⟩
  · rw [kx.hK, kx.hmg]; exact .cons rx' .nil
  · rw [kx.hK, kx.hmg] at r a
    obtain ⟨n, rfl, n0, n1, q'⟩ := q'
    have ev : v = V.int n := by cases r; rfl
    subst ev
    exact ⟨n, rfl, n0, n1, hq _ ρ z' _ F' H' q' (S.call a) a.1 a.2.2.1 Ole.refl r⟩
theorem xe_lenO {m : E D} {mF : List D → E0 D} (G : GM X j g fd ps (spF X.K X.mg 1 mF)) (kx : Kx X C W k) (hj : j + 1 ≤ k) (h1 : ps.length = 1) (hmg : X.mg c = some (.ref A)) (hm : Meth X.K A "__len__" g) (hg : Gl X "len") (hf : X.mg "len" = none) (ha : XP X C W o m) (h2 : S1 X o := by rfl) :
    XE X C W (.Call (.Name "len" p) [o] [] pos) (eb m (fLenO c mF)) :=
  xe_b1 (call_lenO hm G kx hj h1) (o_lenO kx hmg) ha hg hf rfl (by decide) (by decide) h2
end
@[simp] theorem fLenO_a (c : Str) (ns : List Str) (fs : List D) (m : List D → E0 D) (ρ : Rho) (Q : D → Rho → Zs → Prop) (X : Er → Rho → Zs → Prop) (z : Zs) : fLenO c m (.ins c ns fs) ρ Q X z = m [.ins c ns fs] (fun r z' => ∃ n : Int, r = .int n ∧ 0 ≤ n ∧ n < 2 ^ 63 ∧ Q (.int n) ρ z') (fun _ _ => False) z := propext ⟨fun h => h.2, fun h => ⟨⟨_, _, rfl⟩, h⟩⟩
end DL

namespace DL
open PySem PySem.Spec PyProof.Rows L2
/-! ## a dict display of texts and ints, a dict that will change -/
theorem rpL_ints {K : PySem.W.Frag} {mg : Str → Option Value} {pa : Option Addr} {F : Hp} : ∀ is : List Int, RpL K mg pa F (is.map V.int) (is.map D.int)
  | [] => .nil
  | i :: r => .cons (.int _) (rpL_ints r)
section
variable {X : Cx} {C : CC} {W : WX} {pos : Pos} {keys : List (Option Expr)} {values : List Expr} {trs : List (TE × TE)}
theorem xe_disp (ss : List Str) (is : List Int) (h : PPs X pos keys values trs) (hall : keys.all (·.isSome) = true) (hl : keys.length = values.length) (h0 : keys ≠ []) (h15 : keys.length ≤ 15) (hn : ss.length = is.length) (h9 : ss.length ≤ 15)
    (ht : ∀ (σ : L2.St) (H : Hp) (Q : List (V × V) → Hp → Prop), Q (((ss.map Sum.inr : List Key).zip (is.map V.int)).map fun kv => (kV kv.1, kv.2)) H → tPairs trs σ H Q)
    (hm : mergeK [] ((ss.map Sum.inr : List Key).zip (is.map V.int)) = (ss.map Sum.inr : List Key).zip (is.map V.int)) : XE X C W (.Dict keys values pos) (fNewD (ss.map Sum.inr) (is.map D.int)) := by
  refine ⟨_, pe_disp h hall hl h0 h15, fun σ ρ F H z Qd Xd Q S hm' hq hx => fun q hf => ?_⟩
  refine ht σ _ _ ⟨upd_same, _, rfl, by rw [List.length_zip]; simp; omega, ?_⟩
  rw [upd_upd, hm]
  refine hq _ ρ _ _ _ _ hm' (S.newC (c := .dic (ss.map Sum.inr) (is.map D.int)) hf ⟨is.map V.int, rfl, by simp [hn], rpL_ints is⟩) (Same.new (S.free hf)) (Keep.newF hf) Ole.refl (.mc upd_same)
end
/-! ## o(k=e), o an object of an own class -/
section
variable {X : Cx} {C : CC} {W : WX} {k j n N : Nat} {m c x : Str} {A g : Addr} {fd : FuncData} {ps ks : List Str} {sp : Sp} {ta : TE} {tk : TA} {pos p2 : Pos} {kws : List Keyword} {gV : List V → List V → List V} {gD : List D → List D → List D}
theorem callO_ofK {M : Model} {A : Around} {E : Value → Shared → Prop} {s : Shared} {a : Addr} {pos : Pos} {Q : Value → Shared → Prop} {args : List (Bool × Sem Value)} {keywords : List (Option Str × Sem Value)} (hplain : (args.any (·.1) || keywords.any (·.1.isNone)) = false)
    (h : wpAny M A (evalArgs (.ref a) true args keywords) (fun z s₁ => (∃ C ox od, PySem.W.InstAt s₁.heap a ox C od ∧ ox.data = .plain) ∧ wpAny M A (call (.ref a) ([] ++ z.pos) z.kw) Q E s₁) E s) : wpAny M A (callWith pos (.ref a) [] args keywords) Q E s := by
  unfold callWith
  refine wpAny_bind (wpAny_holding (wpAny_mono h (fun z s₁ h₁ => wpAny_bind (wpAny_standAt ?_)) fun _ _ y => y))
  obtain ⟨⟨C, ox, od, J, hd⟩, h₁⟩ := h₁
  have L := PySem.W.kco_keeper (M := M) J hd
  simp only [hplain]
  refine wpAny_bind (L.here ?_)
  have tail : ∀ {t : Sem Value}, wpAny M A t Q E s₁ → wpAny M A (t >>= fun r => holding [r] point >>= fun _ => pure r) Q E s₁ :=
    fun ht => wpAny_bind (wpAny_mono ht (fun r s₂ hr => wpAny_bind (wpAny_holding (wpAny_point (wpAny_pure hr)))) fun _ _ y => y)
  exact tail (wpAny_operateT h₁)
theorem evalCallNameK (x : Str) (p : Pos) (kws : List Keyword) (pos : Pos) (env : PySem.Env) : eval (.Call (.Name x p) [] kws pos) env = (do callWith pos (← eval (.Name x p) env) [] (backTo pos (starEach [] env)) (backToKw pos (keywordEach kws env))) := by rfl
def tCK1 (A : Addr) (m : Nat) (sp : Sp) (gV : List V → List V → List V) (W : WX) (ta : TE) (tk : TA) : TE := fun σ H Q => ta σ H fun x H1 => ∃ a, x = V.ref a ∧ tk σ H1 fun zs H2 => (∃ dx fs, H2 a = some (.ins A dx fs)) ∧ zs.length = m ∧ sp (gV [.ref a] zs) H2 Q (WE W σ)
theorem pe_callOGK (hf : PE X (.Name x p2) ta) (c : StX.CallO X.K A g) (F : FnG X.prog X.w X.K X.mg X.base j g fd ps sp) (hb : BG X.K fd ps ks 1 gV gD) (kx : Kx X C W k) (hj : j ≤ k) (hkw : PK X kws tk)
    (hall : (backToKw pos (keywordEach kws X.env)).all (·.1.isSome) = true := by rfl) (hks : (backToKw pos (keywordEach kws X.env)).filterMap (·.1) = ks := by rfl)
    (hpl : ((backTo pos (starEach [] X.env)).any (·.1) || (backToKw pos (keywordEach kws X.env)).any (·.1.isNone)) = false := by rfl) : PE X (.Call (.Name x p2) [] kws pos) (tCK1 A ks.length sp gV W ta tk) := by
  refine ⟨fun pins s σ H Q I h => ?_⟩
  rw [evalCallNameK]
  refine wpAny_bind (thn (hf.run pins s σ H _ I h) fun u s1 ⟨y, H1, I1, ry, a, ey, q⟩ => ?_)
  subst ey
  obtain rfl : u = Value.ref a := ry
  refine callO_ofK hpl (evalArgs_kw2_nil hall (thn (hkw.run pos pins s1 σ H1 _ I1 q) fun ws s2 ⟨zs, H2, I2, rz, ⟨dx, fs, hi⟩, l, q2⟩ => ?_))
  obtain ⟨ox, od, J, hd⟩ := StX.insC_at I2 (.inr ⟨_, _, hi⟩)
  refine ⟨⟨A, ox, od, J, hd⟩, ?_⟩
  rw [hks]
  obtain ⟨us', b, rr⟩ := hb.to s2 [.ref a] ws I2.kIn rfl (rz.length.symm.trans l)
  refine wpAny_call (PySem.W.kco_code I2.kIn J hd c.at_ c.fn c.fi (codeAny_mono (F.run X.A X.stack s2 H2 ⟨[.ref a], ks.zip ws⟩ us' (gV [.ref a] zs) Q (WE W σ) kx.gu (kx.room.mono hj) I2.env0 b (rr _ _ (.cons rfl .nil) rz) q2) fun r s' hq => ?_))
  cases r with
  | error e => exact passAt kx.tk σ pins H2 s2 e s' I2 hq
  | ok fl =>
    cases fl with
    | ret u => exact I2.after hq
    | next => exact False.elim hq
    | brk => exact False.elim hq
    | cont => exact False.elim hq
def fCallOK {α : Type} (c : Str) (n m : Nat) (mm : List D → E0 α) (mk : E (List D)) (d : D) : E α := fun ρ Q X z => (∃ ns fs, d = .ins c ns fs) ∧ mk ρ (fun es ρ' z' => es.length = m ∧ m + 1 = n ∧ e0 (mm (d :: es)) ρ' Q X z') X z
abbrev eCallOK {α : Type} (c : Str) (n m : Nat) (mm : List D → E0 α) (mo : E D) (mk : E (List D)) : E α := eb mo fun d => fCallOK c n m mm mk d
theorem den_callOFK {mm : List D → E0 D} {mo : E D} {mk : E (List D)} {l : Nat} (kx : Kx X C W k) (hm : X.mg c = some (.ref A)) (ho : Den C W ta mo (kR C)) (hk : Den C W tk mk (kL C)) : Den C W (tCK1 A l (spF X.K X.mg n mm) gKW W ta tk) (eCallOK c n l mm mo mk) (kR C) := by
  refine Den.bind (u := fun x σ H Q => ∃ a, x = V.ref a ∧ tk σ H fun zs H2 => (∃ dx fs, H2 a = some (.ins A dx fs)) ∧ zs.length = l ∧ spF X.K X.mg n mm (gKW [.ref a] zs) H2 Q (WE W σ)) back_R ho ?_
  intro H0 σ ρ F H z d x Qd Xd Q S ra hm' hq hx
  obtain ⟨⟨ns, ds, rfl⟩, hm'⟩ := hm'
  obtain ⟨o, dx, xs, rfl, e2, l0, r⟩ := Rp.insAt (by rw [← kx.hmg]; exact hm) ra
  refine ⟨o, rfl, ?_⟩
  refine hk σ ρ F H z _ Xd _ S hm' (fun es ρ2 z2 vs F2 H2 q2 S2 ff2 k2 o2 rb => ?_) hx
  obtain ⟨q1, q3, q4⟩ := q2
  have ra2 : C.R F2 (V.ref o) (.ins c ns ds) := Rp.mono ff2 ra
  obtain ⟨o', dx', xs', eo, e3, l', r'⟩ := Rp.insAt (by rw [← kx.hmg]; exact hm) ra2
  cases eo
  have rr : C.RL F2 (gKW [V.ref o] vs) (.ins c ns ds :: es) := by
    have : gKW [V.ref o] vs = V.ref o :: vs := by simp [gKW]
    rw [this]
    exact .cons ra2 rb
  refine ⟨⟨_, _, S2.sub _ _ e3 ngI⟩, by rw [RpL.length rb]; exact q1, by rw [RpL.length rr, List.length_cons]; omega, C.pa, F2, z2, _, _, _, S2.sub, ⟨S2.pz, by rw [kx.hK, kx.hmg]; exact S2.cs⟩, by rw [kx.hK, kx.hmg]; exact rr, q4, fun d z' v F' H' q' a r => ?_, fun e z' cls dd F' H' q' a r => ?_⟩
  · rw [kx.hK, kx.hmg] at r a
    exact hq d ρ2 z' v F' H' q' (S2.call a) (ff2.trans a.1) (k2.trans a.2.2.1) o2 r
  · rw [kx.hK, kx.hmg] at r a
    exact hx e ρ2 z' cls dd F' H' q' (S2.call a) (ff2.trans a.1) r
theorem xe_callOK {mo : E D} {mk : E (List D)} {mF : List D → E0 D} (G : GM X j g fd ps (spF X.K X.mg n mF)) (kx : Kx X C W k) (hj : j ≤ k) (hb : BG X.K fd ps ks 1 gKW gKW) (hmg : X.mg c = some (.ref A)) (hc : StX.CallO X.K A g) (ho : XE X C W (.Name x p2) mo) (hkw : XKw X C W kws mk)
    (hall : (backToKw pos (keywordEach kws X.env)).all (·.1.isSome) = true := by rfl) (hks : (backToKw pos (keywordEach kws X.env)).filterMap (·.1) = ks := by rfl)
    (hpl : ((backTo pos (starEach [] X.env)).any (·.1) || (backToKw pos (keywordEach kws X.env)).any (·.1.isNone)) = false := by rfl) (hl : ks.length = N := by rfl) : XE X C W (.Call (.Name x p2) [] kws pos) (eCallOK c n N mF mo mk) := by
  subst hl
  obtain ⟨t1, h1, h2⟩ := ho.ex
  obtain ⟨t2, g1, g2⟩ := hkw.ex
  exact ⟨_, pe_callOGK h1 hc G.fn hb kx hj g1 hall hks hpl, den_callOFK kx hmg h2 g2⟩
end
@[simp] theorem fCallOK_a {α : Type} (c : Str) (n m : Nat) (mm : List D → E0 α) (mk : E (List D)) (ns : List Str) (fs : List D) (ρ : Rho) (Q : α → Rho → Zs → Prop) (X : Er → Rho → Zs → Prop) (z : Zs) : fCallOK c n m mm mk (.ins c ns fs) ρ Q X z = mk ρ (fun es ρ' z' => es.length = m ∧ m + 1 = n ∧ mm (.ins c ns fs :: es) (fun r z' => Q r ρ' z') (fun e z' => X e ρ' z') z') X z := propext ⟨fun h => h.2, fun h => ⟨⟨_, _, rfl⟩, h⟩⟩
end DL

namespace DL
open PySem PySem.Spec PyProof.Rows L2
/-! ## x.pop() of an own list, the answer dropped; dict(a dict that changes) -/
section
variable {X : Cx} {C : CC} {W : WX} {x : Str} {p p1 p2 p3 pos : Pos} {k : Nat} {a : Expr} {ma : E D}
def sPopI (i : Nat) : E Fl := fun ρ Q _ z => match ρ[i]? with
  | some (.own ds) => ds ≠ [] ∧ Q .nx (ρ.set i (.own ds.dropLast)) z
  | _ => False
theorem xs_popI (i : Nat) (hv : PE X (.Name x p) (tVar i)) (hbase : attributeBase (.Name x p) "pop" X.env (eval (.Name x p) X.env) = eval (.Name x p) X.env := by rfl) (hline : (p1.endLine == p2.line) = true := by rfl)
    (hs : swapsWith (.Call (.Attribute (.Name x p) "pop" p1) [] [] p2) none p3.line X.env = pure false := by rfl) : XS X C W (.Expr (.Call (.Attribute (.Name x p) "pop" p1) [] [] p2) p3) (sPopI i) := by
  refine ⟨_, ps_expr (pe_bm0 PySem.F.plainAttrs_list F.slot_list_pop F.type_list_pop mt_pop hv hbase hline) hs, fun σ ρ F H z Qd Xd Dn S hm' hq hx => ?_⟩
  unfold sPopI at hm'
  cases e0 : ρ[i]? with
  | none => rw [e0] at hm'; exact hm'.elim
  | some s =>
    rw [e0] at hm'
    obtain ⟨v, e1, r⟩ := st_get S e0
    cases s with
    | no => exact hm'.elim
    | fr d => exact hm'.elim
    | own ds0 =>
      cases v with
      | none => exact r.elim
      | some v =>
        obtain ⟨ne, hm'⟩ := hm'
        obtain ⟨l, xs, rfl, ha0, hf0, h0, np, rr, nh⟩ := r
        have l1 := RpL.length rr
        have l0 : 0 < ds0.length := List.length_pos_iff.mpr ne
        have l2 : xs.length - 1 < xs.length := by omega
        refine ⟨_, e1, .inl ⟨rfl, xs, .inl (.inl ha0)⟩, l, xs, xs[xs.length - 1], rfl, rfl, ha0, List.getElem?_eq_getElem l2, ?_⟩
        refine hq .nx _ z F _ hm' (Same.refl F) σ (S.mut e0 e1 ?_)
        rw [List.dropLast_eq_take, List.dropLast_eq_take, l1]
        exact RpL.take _ rr
theorem call_dictD (hcalm : X.calm = true) : CallR X (.type "dict") (fun xs H Q => ∃ (a : Addr) (kvs : List (Key × V)), xs = [V.ref a] ∧ Rd H a (.dK kvs) ∧ ∀ p, H p = none → Q (.ref p) (upd H p (.dK kvs))) := by
  intro pins s σ H xs us Q I r q
  obtain ⟨a, kvs, ex, hd, q⟩ := q
  subst ex
  obtain ⟨u, eu, rx⟩ := vals1 r
  subst eu
  cases rx
  exact d_copyOf I hd fun p s' hp I' => ⟨.ref p, _, I', rfl, q p hp⟩
def fCopyD : D → E D
  | .dic ks ds => fun ρ Q _ z => Q (.mc z.cs.length) ρ { z with cs := z.cs ++ [.dic ks ds] }
  | _ => eStuck
theorem o_copyD : Op1 C W (fun x H Q => ∃ (a : Addr) (kvs : List (Key × V)), [x] = [V.ref a] ∧ Rd H a (.dK kvs) ∧ ∀ p, H p = none → Q (.ref p) (upd H p (.dK kvs))) fCopyD (kR C) := fun σ ρ F H z x dx Qd Xd Q S rx hm hq hx => by
  cases dx with
  | dic ks ds =>
    obtain ⟨a, xs, rfl, rd, l, r⟩ := RT.dic S.sub rx
    refine ⟨a, _, rfl, rd, fun p hp => ?_⟩
    exact hq _ ρ _ _ _ _ hm (S.newC (c := .dic ks ds) hp ⟨xs, rfl, l, r⟩) (Same.new (S.free hp)) (Keep.newF hp) Ole.refl (.mc upd_same)
  | _ => exact False.elim hm
theorem xe_t1Z {T : String} {r : List V → Hp → VK → Prop} {f : D → E D} (hc : CallR X (.type T) r) (ho : Op1 C W (fun x H Q => r [x] H Q) f (kR C)) (ha : XP X C W a ma) (hg : Gl X x) (hm : X.mg x = none) (hv : bootBuiltins x = some (.type T)) (hn : x ≠ "__name__" := by decide) (hdb : (x == ("__debug__" : Str)) = false := by decide) (h1 : S1 X a := by rfl) :
    XE X C W (.Call (.Name x p) [a] [] pos) (eb ma fun y => fun ρ Q X z => f (dr z y) ρ Q X z) := by
  obtain ⟨ta, a1, a2⟩ := ha.ex
  exact ⟨_, pe_callTy hc hg hm hv (pa1 a1 h1) hn hdb h1, den_unZ (r := fun x H Q => r [x] H Q) back_R a2 ho⟩
theorem xe_dictZ (kx : Kx X C W k) (hg : Gl X "dict") (hm : X.mg "dict" = none) (ha : XP X C W a ma) (h1 : S1 X a := by rfl) : XE X C W (.Call (.Name "dict" p) [a] [] pos) (eb ma fun y => fun ρ Q X z => fCopyD (dr z y) ρ Q X z) :=
  xe_t1Z (call_dictD kx.calm) o_copyD ha hg hm rfl (by decide) (by decide) h1
end
@[simp] theorem sPopI_a (i : Nat) (t : Sl) (ρ : Rho) (Q : Fl → Rho → Zs → Prop) (X : Er → Rho → Zs → Prop) (z : Zs) : sPopI i (t :: ρ) Q X z = (match (t :: ρ)[i]? with
  | some (.own ds) => ds ≠ [] ∧ Q .nx ((t :: ρ).set i (.own ds.dropLast)) z
  | _ => False) := propext Iff.rfl
@[simp] theorem fCopyD_a (ks : List Key) (ds : List D) (ρ : Rho) (Q : D → Rho → Zs → Prop) (X : Er → Rho → Zs → Prop) (z : Zs) : fCopyD (.dic ks ds) ρ Q X z = Q (.mc z.cs.length) ρ { z with cs := z.cs ++ [.dic ks ds] } := propext Iff.rfl
end DL

namespace DL
open PySem PySem.Spec PyProof.Rows L2
/-! ## repr(x), x a truth or None, too -/
def dReprY : P1
  | .non, Q => Q (.str "None")
  | d, Q => dReprX d Q
def rReprY (K : PySem.W.Frag) : List V → Hp → VK → Prop := fun xs H Q => (xs = [V.non] ∧ Q (.str "None") H) ∨ rReprX K xs H Q
section
variable {X : Cx} {C : CC} {W : WX} {p pos : Pos}
theorem call_reprY (hg : X.A.guards = some []) (hu : X.A.units + 65 < cLine) : CallR X (.builtin "repr") (rReprY X.K) := by
  intro pins s σ H xs us Q I r h
  rcases h with ⟨rfl, q⟩ | h
  · cases r with
    | cons ru rn =>
      cases rn
      obtain rfl : _ = Value.none := ru
      exact call_repr_gives (PySem.typeIs_none s) F.slot_NoneType_repr F.entry_NoneType_repr (F.args_NoneType_repr_1 _) gives_none_repr ⟨.str "None", H, I.tok _, ⟨_, rfl⟩, q⟩
  · exact call_reprX hg hu pins s σ H xs us Q I r h
theorem o_reprY : Op1 C W (fun x H Q => rReprY C.K [x] H Q) (fun d => eP (dReprY d)) (kR C) := by
  intro σ ρ F H z x dx Qd Xd Q S rx hm hq hx
  cases dx with
  | non => obtain rfl := RT.non rx; exact .inl ⟨rfl, S.same (R := kR C) hm (.str _) hq⟩
  | _ => exact .inr (o_reprX σ ρ F H z x _ Qd Xd Q S rx hm hq hx)
theorem xe_reprY {k : Nat} {a : Expr} {ma : E D} (kx : Kx X C W k) (hg : Gl X "repr") (hm : X.mg "repr" = none) (ha : XP X C W a ma) (h1 : S1 X a := by rfl) : XE X C W (.Call (.Name "repr" p) [a] [] pos) (eb ma fun d => eP (dReprY d)) := xe_b1 (call_reprY kx.gu kx.hu) (by rw [kx.hK]; exact o_reprY) ha hg hm rfl (by decide) (by decide) h1
end
@[simp] theorem dReprY_1 (ds : List D) (Q : D → Prop) : dReprY (.lst ds) Q = (reprOk (.lst ds) ∧ Q (.str (D.lst ds).py.shown)) := propext Iff.rfl
@[simp] theorem dReprY_2 (ds : List D) (Q : D → Prop) : dReprY (.tup ds) Q = (reprOk (.tup ds) ∧ Q (.str (D.tup ds).py.shown)) := propext Iff.rfl
@[simp] theorem dReprY_3 (b : Bool) (Q : D → Prop) : dReprY (.bl b) Q = Q (.str (bStr b)) := propext Iff.rfl
@[simp] theorem dReprY_4 (Q : D → Prop) : dReprY .non Q = Q (.str "None") := propext Iff.rfl
@[simp] theorem dReprY_5 (i : Int) (Q : D → Prop) : dReprY (.int i) Q = (i.natAbs.log2 < 1920 ∧ Q (.str (toString i))) := propext Iff.rfl
end DL

namespace DL
open PySem PySem.Spec PyProof.Rows L2
/-! ## x == y and x != y by an own __eq__ -/
section
variable {prog : Program} {w : World} {A : Around} {E : Value → Shared → Prop} {s : Shared} {K : PySem.W.Frag} {x D L f : Addr} {h₀ : Heap} {m : Str → Option Value} {ox : Obj} {od : Option Obj} {b tb : Value}
theorem ifBoundNe {M : Model} {Q : Option Value → Shared → Prop} (X : K.In s.heap) (I : PySem.W.InstAt s.heap x ox D od) (hs : PySem.W.findIn K (.ref D) "__ne__" = some (some (.builtin "object.__ne__")))
    (h : wpAny M A (call (.builtin "object.__ne__") [.ref x, b]) (fun v => Q (some v)) E s) : wpAny M A (callSpecialIfBound? (.ref x) "__ne__" [b]) Q E s := by
  simp only [callSpecialIfBound?, bindSpecialIfBound?]
  refine wpAny_holding (wpAny_bind (wpAny_bind (wpAny_bind (I.type.here ((PySem.W.looks_findIn X hs).here ?_)))))
  simp only [PySem.F.cmp_object.ne.bind]
  refine wpAny_bind (wpAny_askSetting (wpAny_ite ?_))
  have fin : wpAny M A (call (.builtin "object.__ne__") ([.ref x] ++ [b]) >>= fun v => pure (some v)) Q E s := wpAny_bind (wpAny_mono h (fun v s' h' => wpAny_pure h') fun _ _ h' => h')
  split
  · exact wpAny_bind (wpAny_pure (wpAny_pure fin))
  · exact wpAny_tryCatch (wpAny_bind (wpAny_pure (wpAny_pure fin)))
open Builtin in
theorem objNe_K {Q : Fin → Shared → Prop} (hu : A.units < cLine) (X : K.In s.heap) (I : PySem.W.InstAt s.heap x ox D od) (hs : PySem.W.findIn K (.ref D) "__eq__" = some (some (.ref f))) (hf : PySem.W.isFn K (.ref f) = true)
    (hcall : wpAny (model prog w) A (call (.ref f) [.ref x, b]) (fun v s' => ∃ t, v = .bool t ∧ Q (.done (.ret (.bool (!t)))) s') E s) :
    wpAny (model prog w) A (Builtin.«object.__ne__» ⟨[.ref x, b], []⟩) Q E s := by
  unfold Builtin.«object.__ne__»
  repeat (first
    | with_reducible refine wpAny_cRoomFor hu ?_
    | (refine wpAny_bind (m := callSpecialIfBound? (.ref x) (Str.ofString "__eq__") [b])
        (PySem.W.ifBound_K X I hs hf (wpAny_mono hcall (fun r s' hr => by
          obtain ⟨b, rfl, hq⟩ := hr
          repeat (first | exact hq | exact wpAny_pure hq | exact wpAny_truthy_bool hq | (refine wpAny_bind (m := truthy (.bool _)) (wpAny_truthy_bool ?_)) | wp_step)) fun _ _ e => e)))
    | wp_step)
theorem ne_K {Q : Value → Shared → Prop} (hu : A.units + 1 < cLine) (X : K.In s.heap) (I : PySem.W.InstAt s.heap x ox D od) (hb : PySem.W.Looks (model prog w) s.heap (typeOf b) tb) (hn : PySem.W.notFirst K D tb = true)
    (hs : PySem.W.findIn K (.ref D) "__eq__" = some (some (.ref f))) (hf : PySem.W.isFn K (.ref f) = true) (hs2 : PySem.W.findIn K (.ref D) "__ne__" = some (some (.builtin "object.__ne__"))) (hm : PySem.W.mroIn K D (.type "object") = some true)
    (h : wpAny (model prog w) A.in1 (call (.ref f) [.ref x, b]) (fun v s' => ∃ t, v = .bool t ∧ Q (.bool (!t)) s') E s) : wpAny (model prog w) A (richCompare .NotEq (.ref x) b) Q E s := by
  have one : wpAny (model prog w) A (tryCompare (.ref x) "__ne__" b) (fun r s' => ∃ v, r = some v ∧ Q v s') E s := by
    unfold tryCompare
    refine wpAny_bind (ifBoundNe X I hs2 (wpAny_call (codeAny_call_builtin PySem.F.cmp_object.ne.plain PySem.F.cmpEntry_ne (PySem.W.check_slot PySem.F.cmpKind_ne PySem.F.cmpSplit_ne ?_ (PySem.F.cmpArgs_ne _ _) (objNe_K (A := A.in1) hu X I hs hf (wpAny_mono h (fun v s' hv => ?_) fun _ _ e => e))))))
    · exact I.type.andThen (PySem.W.looks_mroIn X hm)
    · obtain ⟨t, rfl, hq⟩ := hv
      first | exact ⟨t, rfl, wpAny_pure ⟨_, rfl, hq⟩⟩ | exact ⟨t, rfl, wpAny_pure (wpAny_pure ⟨_, rfl, hq⟩)⟩ | exact ⟨t, rfl, ⟨_, rfl, hq⟩⟩
  unfold richCompare
  simp only [oneThing_ref]
  refine wpAny_holding (wpAny_bind (wpAny_cRoomFor (Nat.lt_of_succ_lt hu) ?_))
  refine wpAny_bind (I.type.here (wpAny_bind (hb.here ?_)))
  split
  · rename_i q
    have e : PySem.W.subIn K tb (.ref D) = some false := by
      rcases Bool.or_eq_true_iff.mp hn with e | e
      · rw [beq_iff_eq.mp e] at q; simp at q
      · exact beq_iff_eq.mp e
    refine wpAny_bind ((PySem.W.looks_subIn X e).here ?_)
    simp only [Bool.false_eq_true, if_false]
    refine wpAny_bind (wpAny_mono one (fun r s' z => ?_) fun _ _ e => e)
    obtain ⟨v, rfl, hq⟩ := z
    exact wpAny_pure hq
  · refine wpAny_bind (wpAny_pure ?_)
    simp only [Bool.false_eq_true, if_false]
    refine wpAny_bind (wpAny_mono one (fun r s' z => ?_) fun _ _ e => e)
    obtain ⟨v, rfl, hq⟩ := z
    exact wpAny_pure hq
end

section
variable {X : Cx} {C : CC} {W : WX} {k j : Nat} {c : Str} {A g : Addr} {fd : FuncData} {ps : List Str} {sp : Sp}
/-- what != asks of the class -/
structure NeO (K : PySem.W.Frag) (A : Addr) : Prop where
  ne : PySem.W.findIn K (.ref A) "__ne__" = some (some (.builtin "object.__ne__"))
  mo : PySem.W.mroIn K A (.type "object") = some true
def neB (K : PySem.W.Frag) (A : Addr) : Bool := decide (PySem.W.findIn K (.ref A) "__ne__" = some (some (.builtin "object.__ne__"))) && decide (PySem.W.mroIn K A (.type "object") = some true)
theorem neB_ok {K : PySem.W.Frag} {A : Addr} (h : neB K A = true) : NeO K A := by
  obtain ⟨a, b⟩ := Bool.and_eq_true_iff.mp h
  exact ⟨of_decide_eq_true a, of_decide_eq_true b⟩
def rEqO (A : Addr) (ne : Bool) (sp : Sp) : R2 := fun x y H Q => ∃ a dx fs b dy gs, x = .ref a ∧ y = .ref b ∧ H a = some (.ins A dx fs) ∧ H b = some (.ins A dy gs) ∧ sp [.ref a, .ref b] H (fun v H' => ∃ t, v = .bl t ∧ Q (.bl (t != ne)) H') (fun _ _ _ => False)
theorem op_eqO (hm : Meth X.K A "__eq__" g) (G : GM X j g fd ps sp) (kx : Kx X C W k) (hj : j + 1 ≤ k) (h2 : ps.length = 2) : OpR X (compareOp .Eq) (rEqO A false sp) := by
  intro pins s σ H x y v u Q I rx ry h
  obtain ⟨a, dx, fs, b, dy, gs, rfl, rfl, e0, e1, h⟩ := h
  cases (show v = Value.ref a from rx)
  cases (show u = Value.ref b from ry)
  obtain ⟨_, O, _⟩ := ins_get I.hok e0
  obtain ⟨_, J, _⟩ := O.look
  obtain ⟨_, O', _⟩ := ins_get I.hok e1
  obtain ⟨_, J', _⟩ := O'.look
  obtain ⟨m, hF⟩ := I.fr
  have hroom : Room (j + 1) X.A := kx.room.mono hj
  obtain ⟨us', b1, b2⟩ := G.bg.to s [.ref a, .ref b] [] I.kIn h2.symm rfl
  show wpAny (model X.prog X.w) X.A (richCompare .Eq (.ref a) (.ref b)) (EP X pins σ Q) X.xe s
  refine PySem.W.cmp_K (op := .Eq) (tb := .ref A) hroom.units0 hF I.ok.mod.kin J J'.type (by simp [PySem.W.notFirst]) hm.at_ hm.fn ?_
  refine wpAny_call (codeAny_mono (G.fn.run X.A X.stack s H ⟨[.ref a, .ref b], []⟩ us' [.ref a, .ref b] _ (fun _ _ _ => False) kx.gu (hroom.mono (Nat.le_succ _)) I.env0 b1 (b2 _ [] (.cons rfl (.cons rfl .nil)) .nil) h) fun r s' hq => ?_)
  rcases r with er | fl
  · obtain ⟨_, _, _, _, _, _, _, _, _, _, _, _, hw⟩ := hq
    exact hw.elim
  · cases fl with
    | ret u =>
      obtain ⟨v, H', I3, rv, t, rfl, q3⟩ := I.after hq
      cases (show u = Value.bool t from rv)
      exact ⟨V.bl t, H', I3, rfl, by simpa using q3⟩
    | _ => exact False.elim hq
theorem op_neO (N : NeO X.K A) (hm : Meth X.K A "__eq__" g) (G : GM X j g fd ps sp) (kx : Kx X C W k) (hj : j + 1 ≤ k) (h2 : ps.length = 2) : OpR X (compareOp .NotEq) (rEqO A true sp) := by
  intro pins s σ H x y v u Q I rx ry h
  obtain ⟨a, dx, fs, b, dy, gs, rfl, rfl, e0, e1, h⟩ := h
  cases (show v = Value.ref a from rx)
  cases (show u = Value.ref b from ry)
  obtain ⟨_, O, _⟩ := ins_get I.hok e0
  obtain ⟨_, J, _⟩ := O.look
  obtain ⟨_, O', _⟩ := ins_get I.hok e1
  obtain ⟨_, J', _⟩ := O'.look
  have hroom : Room (j + 1) X.A := kx.room.mono hj
  obtain ⟨us', b1, b2⟩ := G.bg.to s [.ref a, .ref b] [] I.kIn h2.symm rfl
  show wpAny (model X.prog X.w) X.A (richCompare .NotEq (.ref a) (.ref b)) (EP X pins σ Q) X.xe s
  have hu := kx.hu
  refine ne_K (tb := .ref A) (by omega) I.kIn J J'.type (by simp [PySem.W.notFirst]) hm.at_ hm.fn N.ne N.mo ?_
  refine wpAny_call (codeAny_mono (G.fn.run X.A.in1 X.stack s H ⟨[.ref a, .ref b], []⟩ us' [.ref a, .ref b] _ (fun _ _ _ => False) kx.gu hroom.in1 I.env0.in1 b1 (b2 _ [] (.cons rfl (.cons rfl .nil)) .nil) h) fun r s' hq => ?_)
  rcases r with er | fl
  · obtain ⟨_, _, _, _, _, _, _, _, _, _, _, _, hw⟩ := hq
    exact hw.elim
  · cases fl with
    | ret u =>
      obtain ⟨v, H', I3, rv, t, rfl, q3⟩ := I.after hq
      cases (show u = Value.bool t from rv)
      exact ⟨t, rfl, V.bl (!t), H', I3, rfl, by simpa using q3⟩
    | _ => exact False.elim hq
/-- d == e, d != e, both objects of the class c whose __eq__ is m -/
def fEqO (c : Str) (ne : Bool) (m : List D → E0 D) (d e : D) : E D := fun ρ Q _ z => (∃ ns ds, d = .ins c ns ds) ∧ (∃ ns ds, e = .ins c ns ds) ∧ m [d, e] (fun r z' => ∃ t, r = .bl t ∧ Q (.bl (t != ne)) ρ z') (fun _ _ => False) z
theorem o_eqO {mF : List D → E0 D} {ne : Bool} (kx : Kx X C W k) (hmg : X.mg c = some (.ref A)) : Op2 C W (rEqO A ne (spF X.K X.mg 2 mF)) (fEqO c ne mF) (kR C) := fun σ ρ F H z x y dx dy Qd Xd Q S rx ry hm hq hx => by
  obtain ⟨⟨ns, ds, rfl⟩, ⟨ns', ds', rfl⟩, hm⟩ := hm
  have rx' := RT.ins rx
  have ry' := RT.ins ry
  obtain ⟨o, ox, xs, rfl, e2, l, r⟩ := Rp.insAt (by rw [← kx.hmg]; exact hmg) rx'
  obtain ⟨p, py, ys, rfl, e3, l', r'⟩ := Rp.insAt (by rw [← kx.hmg]; exact hmg) ry'
  refine ⟨o, ox, _, p, py, _, rfl, rfl, S.sub _ _ e2 ngI, S.sub _ _ e3 ngI, rfl, C.pa, F, z, [_, _], _, _, S.sub, ⟨S.pz, by rw [kx.hK, kx.hmg]; exact S.cs⟩, ?_, hm, fun d z' v F' H' q' a r => ?_, fun e z' cls dd F' H' q' a r => q'⟩
  · rw [kx.hK, kx.hmg]; exact .cons rx' (.cons ry' .nil)
  · rw [kx.hK, kx.hmg] at r a
    obtain ⟨t, rfl, q'⟩ := q'
    have ev : v = V.bl t := by cases r; rfl
    subst ev
    exact ⟨t, rfl, hq _ ρ z' _ F' H' q' (S.call a) a.1 a.2.2.1 Ole.refl (.bl _)⟩
end
@[simp] theorem fEqO_a (c : Str) (ne : Bool) (ns ns' : List Str) (fs fs' : List D) (m : List D → E0 D) (ρ : Rho) (Q : D → Rho → Zs → Prop) (X : Er → Rho → Zs → Prop) (z : Zs) : fEqO c ne m (.ins c ns fs) (.ins c ns' fs') ρ Q X z = m [.ins c ns fs, .ins c ns' fs'] (fun r z' => ∃ t, r = .bl t ∧ Q (.bl (t != ne)) ρ z') (fun _ _ => False) z := propext ⟨fun h => h.2.2, fun h => ⟨⟨_, _, rfl⟩, ⟨_, _, rfl⟩, h⟩⟩
/-! ## isinstance(x, C), C an own class, x any data -/
structure ClI (K : PySem.W.Frag) (A : Addr) : Prop where
  cl : Cls K A
  ca : PySem.W.findIn K (.ref A) "__class__" = some (some (.builtin "object.__class__"))
  cn : PySem.W.specialIn K (.builtin "object.__class__") "__get__" = some (some (.builtin "getset_descriptor.__get__"))
  ct : PySem.W.takesIn K (.builtin "object.__class__") = some true
  cm : PySem.W.mroIn K A (.type "object") = some true
def clB (K : PySem.W.Frag) (A : Addr) : Bool := decide (PySem.W.findIn K (.ref A) "__class__" = some (some (.builtin "object.__class__"))) && decide (PySem.W.specialIn K (.builtin "object.__class__") "__get__" = some (some (.builtin "getset_descriptor.__get__"))) &&
  decide (PySem.W.takesIn K (.builtin "object.__class__") = some true) && decide (PySem.W.mroIn K A (.type "object") = some true)
theorem clB_ok {K : PySem.W.Frag} {A : Addr} (h : clB K A = true) (cl : Cls K A) : ClI K A := by
  unfold clB at h
  simp only [Bool.and_eq_true, decide_eq_true_eq] at h
  exact ⟨cl, h.1.1.1, h.1.1.2, h.1.2, h.2⟩
def tysO : List String := ["NoneType", "bool", "int", "str", "list", "tuple"]
def isoB (K : PySem.W.Frag) (A : Addr) (Bs : List Addr) : Bool := tysO.all (fun t => decide (PySem.W.kitOne K (.type t) (.ref A) = some false)) && Bs.all (fun B => decide (PySem.W.kitOne K (.ref B) (.ref A) = some false))
def dIsO (c : Str) (os : List Str) : P1 := fun d Q => match d with
  | .ins c' _ _ => if c' = c then Q (.bl true) else c' ∈ os ∧ Q (.bl false)
  | d => (tyN d).isSome = true ∧ Q (.bl false)
section
variable {X : Cx} {C : CC} {W : WX} {a : Expr} {ma : E D} {pos p p2 : Pos} {x c : Str} {A : Addr}
theorem tyN_in {d : D} {t : String} (h : tyN d = some t) : t ∈ tysO := by
  cases d <;> simp [tyN] at h <;> subst h <;> decide
theorem xe_isO {os : List (Str × Addr)} (hK : X.K = C.K) (hmg' : X.mg = C.mg) (hmg : X.mg c = some (.ref A)) (hA : ClI X.K A) (hos : ∀ q ∈ os, X.mg q.1 = some (.ref q.2) ∧ ClI X.K q.2) (hb : isoB X.K A (os.map (·.2)) = true) (ha : XP X C W a ma) (hg : Gl X "isinstance") (hm : X.mg "isinstance" = none) (h2 : PE X (.Name x p2) (tC (.ref A)))
    (hp : starEach (a :: [.Name x p2]) X.env = (false, eval a X.env) :: starEach [.Name x p2] X.env := by rfl) (hpl : (backTo pos (starEach [.Name x p2] X.env)).any (·.1) = false := by rfl) :
    XE X C W (.Call (.Name "isinstance" p) [a, .Name x p2] [] pos) (eb ma fun d => eP (dIsO c (os.map (·.1)) d)) := by
  obtain ⟨ta, a1, a2⟩ := ha.ex
  have hb' := Bool.and_eq_true_iff.mp hb
  refine ⟨_, pe_callB L2.call_isi hg hm rfl (pa2 a1 h2 hp rfl) (by decide) (by decide) hp hpl, ?_⟩
  refine den_un (r := fun x H Q => rIsi X.K [x, .ref A] H Q) back_R a2 ?_
  refine op1_flat fun F H x dx Q Qd s rx hp hq => ?_
  have flat : ∀ t, tyN dx = some t → Qd (.bl false) → rIsi X.K [x, .ref A] H Q := fun t ht q => by
    refine ⟨x, .ref A, .type t, .ref A, false, rfl, .own A, ?_, ?_, hq _ _ q (.bl false)⟩
    · rw [hK]; exact ty_of s rx ht
    · have := List.all_eq_true.mp hb'.1 t (tyN_in ht)
      exact of_decide_eq_true this
  cases dx with
  | ins c' ns ds =>
    have rx' := RT.ins rx
    unfold dIsO at hp
    simp only at hp
    split at hp
    · rename_i e
      subst e
      obtain ⟨o, dx, xs, rfl, e2, l, r⟩ := Rp.insAt (by rw [← hmg']; exact hmg) rx'
      exact ⟨.ref o, .ref A, .ref A, .ref A, true, rfl, .own A, .base (.ins (s _ _ e2 ngI) hA.cl hA.ca hA.cn hA.ct hA.cm), by show (if (Value.ref A == Value.ref A) = true then _ else _) = _; simp, hq _ _ hp (.bl true)⟩
    · obtain ⟨hin, q⟩ := hp
      obtain ⟨⟨c2, B⟩, hq2, rfl⟩ := List.mem_map.mp hin
      obtain ⟨m1, hB⟩ := hos _ hq2
      obtain ⟨o, dx, xs, rfl, e2, l, r⟩ := Rp.insAt (by rw [← hmg']; exact m1) rx'
      have := List.all_eq_true.mp hb'.2 B (List.mem_map.mpr ⟨_, hq2, rfl⟩)
      exact ⟨.ref o, .ref A, .ref B, .ref A, false, rfl, .own A, .base (.ins (s _ _ e2 ngI) hB.cl hB.ca hB.cn hB.ct hB.cm), of_decide_eq_true this, hq _ _ q (.bl false)⟩
  | non => exact flat _ rfl hp.2
  | bl b => exact flat _ rfl hp.2
  | int b => exact flat _ rfl hp.2
  | str b => exact flat _ rfl hp.2
  | lst b => exact flat _ rfl hp.2
  | tup b => exact flat _ rfl hp.2
  | _ => exact absurd hp.1 (by simp [tyN])
end
@[simp] theorem dIsO_1 (c : Str) (os ns : List Str) (ds : List D) (Q : D → Prop) : dIsO c os (.ins c ns ds) Q = Q (.bl true) := by simp [dIsO]
theorem dIsO_2 (c c' : Str) (os ns : List Str) (ds : List D) (Q : D → Prop) (h : c' ≠ c) (hi : c' ∈ os) : dIsO c os (.ins c' ns ds) Q = Q (.bl false) := by simp [dIsO, h, hi]
@[simp] theorem dIsO_3 (c : Str) (os : List Str) (ds : List D) (Q : D → Prop) : dIsO c os (.lst ds) Q = Q (.bl false) := by simp [dIsO, tyN]
@[simp] theorem dIsO_4 (c : Str) (os : List Str) (ds : List D) (Q : D → Prop) : dIsO c os (.tup ds) Q = Q (.bl false) := by simp [dIsO, tyN]
@[simp] theorem dIsO_5 (c : Str) (os : List Str) (i : Int) (Q : D → Prop) : dIsO c os (.int i) Q = Q (.bl false) := by simp [dIsO, tyN]
@[simp] theorem dIsO_6 (c : Str) (os : List Str) (Q : D → Prop) : dIsO c os .non Q = Q (.bl false) := by simp [dIsO, tyN]
@[simp] theorem dIsO_7 (c : Str) (os : List Str) (i : Str) (Q : D → Prop) : dIsO c os (.str i) Q = Q (.bl false) := by simp [dIsO, tyN]
end DL

namespace DL
open PySem PySem.Spec PyProof.Rows L2
/-! ## for x in l, l a list that changes, but not in the loop -/
def forZ (k : Nat) (ds : List D) (tg : Tg) (mb : E Fl) : List D → E Fl
  | [] => fun ρ Q _ z => z.cs[k]? = some (.lst ds) ∧ Q .nx ρ z
  | d :: r => fun ρ Q X z => z.cs[k]? = some (.lst ds) ∧ tg d ρ fun ρ1 => mb ρ1 (fun fl ρ2 z2 => forK (forZ k ds tg mb r) fl ρ2 Q X z2) X z
def fForZ (tg : Tg) (mb : E Fl) : D → E Fl
  | .mc k => fun ρ Q X z => ∃ ds, z.cs[k]? = some (.lst ds) ∧ forZ k ds tg mb ds ρ Q X z
  | _ => eStuck
def sForZ (mi : E D) (tg : Tg) (mb : E Fl) : E Fl := eb mi (fForZ tg mb)
section
variable {X : Cx} {C : CC} {W : WX} {k : Nat} {tg iter : Expr} {pos : Pos}
theorem xs_forZ {mi : E D} {mbody : E Fl} {is : List Nat} {g : Tg} {body : List Stmt} (kx : Kx X C W k) (hi : XE X C W iter mi) (hg : XG X C tg is g) (hb : XSs X C W body mbody)
    (hs : ∀ x, foldedSetIterable iter X.env x = pure x := by intro _; rfl) : XS X C W (.For tg iter body [] pos) (sForZ mi g mbody) := by
  obtain ⟨t, h1, h2⟩ := hi.ex
  obtain ⟨gg, g1, g2⟩ := hg.ex
  obtain ⟨tb, b1, b2⟩ := hb.ex
  refine ⟨_, ps_for kx.po kx.calm (pi_list h1) g1 b1 hs, fun σ ρ F H z Qd Xd Dn S hm hq hx => ?_⟩
  refine h2 σ ρ F H z _ Xd _ S hm (fun d ρ1 z1 v F1 H1 q1 S1 ff1 k1 o1 r1 => ?_) (fun e ρ' z' cls dd F' H' q S' ff r => hx e ρ' z' cls dd σ F' H' q S' ff r)
  cases d with
  | mc k =>
    cases r1 with
    | @mc l _ eg =>
      obtain ⟨ds, e0, q1⟩ := q1
      have now : ∀ {σ' : L2.St} {ρ' : Rho} {F' H' : Hp} {z' : Zs}, StOk C σ' ρ' F' H' z' → Same F1 F' → z'.cs[k]? = some (.lst ds) → ∃ xs, H' l = some (.lst xs) ∧ C.RL F' xs ds := fun S' ff e => by
        obtain ⟨o, c, e1, e2, e3⟩ := S'.cs.get (ff _ _ eg)
        rw [e] at e2
        cases e2
        obtain ⟨xs, rfl, r⟩ := e3
        exact ⟨xs, e1, r⟩
      obtain ⟨xs0, e1, _⟩ := now S1 (Same.refl _) e0
      refine ⟨l, rfl, ⟨xs0, .inl (.inl e1)⟩, ?_⟩
      refine ⟨fun i m σ' H' => m = ds.length - i ∧ i ≤ ds.length ∧ ∃ ρ' F' z', StOk C σ' ρ' F' H' z' ∧ Same F1 F' ∧ forZ k ds g mbody (ds.drop i) ρ' Qd Xd z', ⟨ds.length, by simp, Nat.zero_le _, ρ1, F1, z1, S1, Same.refl _, by simpa using q1⟩, ?_⟩
      rintro i m σ2 H2 ⟨rfl, hi, ρ2, F2, z2, S2, ff2, q2⟩
      cases hd : ds[i]? with
      | none =>
        have hl : ds.length ≤ i := List.getElem?_eq_none_iff.mp hd
        rw [List.drop_eq_nil_of_le hl] at q2
        obtain ⟨q0, q2⟩ := q2
        obtain ⟨xs, e2, r⟩ := now S2 ff2 q0
        have l1 := RpL.length r
        exact .inl ⟨⟨xs, .inl (.inl e2), by omega⟩, hq _ _ _ _ _ q2 (ff1.trans ff2) σ2 S2⟩
      | some d =>
        obtain ⟨hlt, hget⟩ := List.getElem?_eq_some_iff.mp hd
        rw [List.drop_eq_getElem_cons hlt, hget] at q2
        obtain ⟨q0, q2⟩ := q2
        obtain ⟨xs, e2, r⟩ := now S2 ff2 q0
        obtain ⟨v, e3, r3⟩ := RpL.get r hd
        have sq : SqL X.K H2 l xs := .inl (.inl e2)
        refine .inr ⟨⟨xs, v, sq, e3⟩, fun σ' H' => ∃ ρ' F' z', StOk C σ' ρ' F' H' z' ∧ Same F1 F' ∧ forZ k ds g mbody (ds.drop (i + 1)) ρ' Qd Xd z', fun σ' H' w => ⟨_, by omega, rfl, hlt, w⟩, fun x H3 y => ?_⟩
        obtain ⟨rfl, y⟩ := y
        have e4 := y xs sq
        rw [e3] at e4
        cases e4
        refine g2 σ2 ρ2 F2 H3 z2 _ d _ _ S2 r3 q2 (fun σ4 ρ4 q4 S4 _ _ => ?_)
        refine b2 σ4 ρ4 F2 H3 z2 _ Xd _ S4 q4 (fun fl ρ5 z5 F5 H5 q5 ff5 => ?_) (fun e ρ' z' cls dd σ' F' H' q S' ff r => hx e ρ' z' cls dd σ' F' H' q S' ((ff1.trans ff2).trans ff) r)
        have ffa : Same F F5 := (ff1.trans ff2).trans ff5
        cases fl with
        | nx => exact fun σ5 S5 => ⟨ρ5, F5, z5, S5, ff2.trans ff5, q5⟩
        | ct => exact fun σ5 S5 => ⟨ρ5, F5, z5, S5, ff2.trans ff5, q5⟩
        | bk => exact fun σ5 S5 => hq .nx ρ5 z5 F5 H5 q5 ffa σ5 S5
        | ret d => exact hq (.ret d) ρ5 z5 F5 H5 q5 ffa
        | retO d => exact hq (.retO d) ρ5 z5 F5 H5 q5 ffa
  | _ => exact False.elim q1
end
section
variable (tg : Tg) (mb : E Fl) (mi : E D) (ρ : Rho) (Q : Fl → Rho → Zs → Prop) (X : Er → Rho → Zs → Prop) (z : Zs)
@[simp] theorem sForZ_a : sForZ mi tg mb ρ Q X z = mi ρ (fun d ρ' z' => fForZ tg mb d ρ' Q X z') X z := propext Iff.rfl
theorem fForZ_a (k : Nat) : fForZ tg mb (.mc k) ρ Q X z = ∃ ds, z.cs[k]? = some (.lst ds) ∧ forZ k ds tg mb ds ρ Q X z := propext Iff.rfl
theorem forZ_nil (k : Nat) (ds : List D) : forZ k ds tg mb [] ρ Q X z = (z.cs[k]? = some (.lst ds) ∧ Q .nx ρ z) := propext Iff.rfl
theorem forZ_cons (k : Nat) (ds : List D) (d : D) (r : List D) : forZ k ds tg mb (d :: r) ρ Q X z = (z.cs[k]? = some (.lst ds) ∧ tg d ρ fun ρ1 => mb ρ1 (fun fl ρ2 z2 => forK (forZ k ds tg mb r) fl ρ2 Q X z2) X z) := propext Iff.rfl
end
end DL

namespace DL
open PySem PySem.Spec PyProof.Rows L2
/-! ## x == y by an own __eq__, y any data that is frozen -/
section
variable {X : Cx} {C : CC} {W : WX} {k j : Nat} {c : Str} {A g : Addr} {fd : FuncData} {ps : List Str} {sp : Sp} {a b : Expr} {ma mb : E D} {pos : Pos}
def Op2R {α : Type} (C : CC) (W : WX) (r : R2) (f : D → D → E α) (R : Hp → Hp → Hp → V → α → Prop) : Prop :=
  ∀ (σ : L2.St) (ρ : Rho) (F H : Hp) (z : Zs) (x y : V) (dx dy : D) (Qd : α → Rho → Zs → Prop) (Xd : Er → Rho → Zs → Prop) (Q : VK), StOk C σ ρ F H z → RT C F H x dx → C.R F y dy → f dx dy ρ Qd Xd z →
    (∀ c ρ' z' d F' H', Qd c ρ' z' → StOk C σ ρ' F' H' z' → Same F F' → Keep C.pa F F' H H' → Ole ρ' ρ → R H F' H' d c → Q d H') →
    (∀ e ρ' z' cls dd F' H', Xd e ρ' z' → StOk C σ ρ' F' H' z' → Same F F' → ExR C F' H' e cls dd → W cls dd σ H') → r x y H Q
theorem den_opR {α : Type} {ta tb : TE} {r : R2} {f : D → D → E α} {R : Hp → Hp → Hp → V → α → Prop} (hB : Back C R) (ha : Den C W ta ma (kT C)) (hb : Den C W tb mb (kR C)) (ho : Op2R C W r f R) :
    Den C W (tOp r ta tb) (eb ma fun x => eb mb fun y => f x y) R :=
  Den.bind (u := fun x σ H Q => tb σ H fun y H2 => r x y H2 Q) hB ha fun H0 σ ρ F H z a x Qd Xd Q S ra hm hq hx =>
    hb σ ρ F H z _ Xd _ S hm (fun d ρ2 z2 y F2 H2 q2 S2 ff2 k2 o2 rb => ho σ ρ2 F2 H2 z2 x y a d Qd Xd Q S2 (ra.keep ff2 k2).now rb q2
        (fun c ρ' z' d' F' H' q' S' ff' k' o' r' => hq c ρ' z' d' F' H' q' S' (ff2.trans ff') (k2.trans k') (o'.trans o2) (hB _ _ _ _ _ _ k2.dm r'))
        (fun e ρ' z' cls dd F' H' q' S' ff' r' => hx e ρ' z' cls dd F' H' q' S' (ff2.trans ff') r'))
      hx
theorem xe_cmpX {op : CmpOp} {r : R2} {f : D → D → E D} (h : OpR X (compareOp op) r) (ho : Op2R C W r f (kR C)) (ha : XP X C W a ma) (hb : XE X C W b mb) (hm : behindInMarks op b = false) : XE X C W (.Compare a [op] [b] pos) (eb ma fun x => eb mb fun y => f x y) := by
  obtain ⟨ta, a1, a2⟩ := ha.ex
  obtain ⟨tb, b1, b2⟩ := hb.ex
  exact ⟨_, pe_cmpR h a1 b1 hm, den_opR back_R a2 b2 ho⟩
def rEqX (K : PySem.W.Frag) (A : Addr) (sp : Sp) : R2 := fun x y H Q => ∃ a dx fs t, x = .ref a ∧ H a = some (.ins A dx fs) ∧ TyX K H y t ∧ PySem.W.notFirst K A t = true ∧ sp [.ref a, y] H (fun v H' => ∃ t, v = .bl t ∧ Q (.bl t) H') (fun _ _ _ => False)
theorem op_eqX (hm : Meth X.K A "__eq__" g) (G : GM X j g fd ps sp) (kx : Kx X C W k) (hj : j + 1 ≤ k) (h2 : ps.length = 2) : OpR X (compareOp .Eq) (rEqX X.K A sp) := by
  intro pins s σ H x y v u Q I rx ry h
  obtain ⟨a, dx, fs, t, rfl, e0, ty, nf, h⟩ := h
  cases (show v = Value.ref a from rx)
  obtain ⟨_, O, _⟩ := ins_get I.hok e0
  obtain ⟨_, J, _⟩ := O.look
  obtain ⟨P, Z, hP, _⟩ := kit_of I ry ty
  obtain ⟨m, hF⟩ := I.fr
  have hroom : Room (j + 1) X.A := kx.room.mono hj
  obtain ⟨us', b1, b2⟩ := G.bg.to s [.ref a, u] [] I.kIn h2.symm rfl
  show wpAny (model X.prog X.w) X.A (richCompare .Eq (.ref a) u) (EP X pins σ Q) X.xe s
  refine PySem.W.cmp_K (op := .Eq) (tb := t) hroom.units0 hF I.ok.mod.kin J (Z.ty _ _ I.kIn hP) nf hm.at_ hm.fn ?_
  refine wpAny_call (codeAny_mono (G.fn.run X.A X.stack s H ⟨[.ref a, u], []⟩ us' [.ref a, y] _ (fun _ _ _ => False) kx.gu (hroom.mono (Nat.le_succ _)) I.env0 b1 (b2 _ [] (.cons rfl (.cons ry .nil)) .nil) h) fun r s' hq => ?_)
  rcases r with er | fl
  · obtain ⟨_, _, _, _, _, _, _, _, _, _, _, _, hw⟩ := hq
    exact hw.elim
  · cases fl with
    | ret u =>
      obtain ⟨v, H', I3, rv, t, rfl, q3⟩ := I.after hq
      cases (show u = Value.bool t from rv)
      exact ⟨V.bl t, H', I3, rfl, q3⟩
    | _ => exact False.elim hq
def nfB (K : PySem.W.Frag) (A : Addr) (Bs : List Addr) : Bool := tysO.all (fun t => PySem.W.notFirst K A (.type t)) && Bs.all (fun B => PySem.W.notFirst K A (.ref B))
/-- what may stand behind == -/
def okR (c : Str) (os : List Str) : D → Prop
  | .ins c' _ _ => c' = c ∨ c' ∈ os
  | d => (tyN d).isSome = true
def fEqX (c : Str) (os : List Str) (m : List D → E0 D) (d e : D) : E D := fun ρ Q _ z => (∃ ns ds, d = .ins c ns ds) ∧ okR c os e ∧ m [d, e] (fun r z' => ∃ t, r = .bl t ∧ Q (.bl t) ρ z') (fun _ _ => False) z
theorem o_eqX {os : List (Str × Addr)} {mF : List D → E0 D} (kx : Kx X C W k) (hmg : X.mg c = some (.ref A)) (hA : ClI X.K A) (hos : ∀ q ∈ os, X.mg q.1 = some (.ref q.2) ∧ ClI X.K q.2) (hb : nfB X.K A (os.map (·.2)) = true) :
    Op2R C W (rEqX X.K A (spF X.K X.mg 2 mF)) (fEqX c (os.map (·.1)) mF) (kR C) := fun σ ρ F H z x y dx dy Qd Xd Q S rx ry hm hq hx => by
  obtain ⟨⟨ns, ds, rfl⟩, ok, hm⟩ := hm
  have hb' := Bool.and_eq_true_iff.mp hb
  have rx' := RT.ins rx
  obtain ⟨o, ox, xs, rfl, e2, l, r⟩ := Rp.insAt (by rw [← kx.hmg]; exact hmg) rx'
  have fin : ∀ t, TyX X.K H y t → PySem.W.notFirst X.K A t = true → rEqX X.K A (spF X.K X.mg 2 mF) (.ref o) y H Q := fun t ty nf => by
    refine ⟨o, ox, _, t, rfl, S.sub _ _ e2 ngI, ty, nf, rfl, C.pa, F, z, [_, _], _, _, S.sub, ⟨S.pz, by rw [kx.hK, kx.hmg]; exact S.cs⟩, ?_, hm, fun d z' v F' H' q' a r => ?_, fun e z' cls dd F' H' q' a r => q'⟩
    · rw [kx.hK, kx.hmg]; exact .cons rx' (.cons ry .nil)
    · rw [kx.hK, kx.hmg] at r a
      obtain ⟨t, rfl, q'⟩ := q'
      have ev : v = V.bl t := by cases r; rfl
      subst ev
      exact ⟨t, rfl, hq _ ρ z' _ F' H' q' (S.call a) a.1 a.2.2.1 Ole.refl (.bl _)⟩
  have flat : ∀ t, tyN dy = some t → rEqX X.K A (spF X.K X.mg 2 mF) (.ref o) y H Q := fun t ht => fin (.type t) (by rw [kx.hK]; exact ty_of S.sub (.inl ry) ht) (List.all_eq_true.mp hb'.1 t (tyN_in ht))
  cases dy with
  | ins c' ns' ds' =>
    rcases ok with rfl | hin
    · obtain ⟨p, py, ys, rfl, e3, l', r'⟩ := Rp.insAt (by rw [← kx.hmg]; exact hmg) ry
      exact fin (.ref A) (.base (.ins (S.sub _ _ e3 ngI) hA.cl hA.ca hA.cn hA.ct hA.cm)) (by simp [PySem.W.notFirst])
    · obtain ⟨⟨c2, B⟩, hq2, rfl⟩ := List.mem_map.mp hin
      obtain ⟨m1, hB⟩ := hos _ hq2
      obtain ⟨p, py, ys, rfl, e3, l', r'⟩ := Rp.insAt (by rw [← kx.hmg]; exact m1) ry
      exact fin (.ref B) (.base (.ins (S.sub _ _ e3 ngI) hB.cl hB.ca hB.cn hB.ct hB.cm)) (List.all_eq_true.mp hb'.2 B (List.mem_map.mpr ⟨_, hq2, rfl⟩))
  | non => exact flat _ rfl
  | bl b => exact flat _ rfl
  | int b => exact flat _ rfl
  | str b => exact flat _ rfl
  | lst b => exact flat _ rfl
  | tup b => exact flat _ rfl
  | _ => exact absurd ok (by simp [okR, tyN])
end
theorem fEqX_a (c : Str) (os : List Str) (ns : List Str) (fs : List D) (e : D) (m : List D → E0 D) (ρ : Rho) (Q : D → Rho → Zs → Prop) (X : Er → Rho → Zs → Prop) (z : Zs) (h : okR c os e) : fEqX c os m (.ins c ns fs) e ρ Q X z = m [.ins c ns fs, e] (fun r z' => ∃ t, r = .bl t ∧ Q (.bl t) ρ z') (fun _ _ => False) z := propext ⟨fun h => h.2.2, fun h' => ⟨⟨_, _, rfl⟩, h, h'⟩⟩
end DL

namespace DL
open PySem PySem.Spec PyProof.Rows L2

/-! ## sets of texts whose members are known -/
def keyT : Int × Value → Str := fun e => match e.2 with
  | .str k _ => k
  | _ => Str.empty
section
variable {P : Program} {w : World}
def IsTx (P : Program) (w : World) (e : Int × Value) : Prop := ∃ k u, e.2 = Value.str k u ∧ e.1 = (PySem.strKind P w).hash k
theorem IsTx.key {e : Int × Value} (g : IsTx P w e) (k : Str) : (PySem.strKind P w).is k e.2 = true ↔ keyT e = k := by
  obtain ⟨x, u, h1, _⟩ := g
  unfold keyT
  rw [h1]
  exact beq_iff_eq (a := x) (b := k)
theorem txElems {l : List (Int × Value)} (g : ∀ e ∈ l, IsTx P w e) : ElemsOf (PySem.strKind P w) l := fun e he =>
  match e, g e he with
  | (_, _), ⟨k, u, rfl, h2⟩ => ⟨⟨k, strKind_is P w k u, h2⟩, rfl⟩
/-- the members in the order in which they came -/
structure TxO (P : Program) (w : World) (o : Obj) (L : List Str) (es : Array (Int × Value)) (ep : Nat) (t : SetTable) : Prop where
  ex : o.ExactSet
  dt : o.data = .set es ep t
  el : ∀ e ∈ es.toList, IsTx P w e
  ks : (es.toList.map keyT).Perm L
  nd : L.Nodup
  fw : es.size < scanBound
  ft : t.fits es.size = true
  ri : Ris t.place.toList
  ld : w.params.followText "set-order" = true ∨ t.led = true
def TxS (P : Program) (w : World) (h : Heap) (a : Addr) (L : List Str) : Prop := ∃ o es ep t, h.get? a = some o ∧ TxO P w o L es ep t
theorem TxS.keep {h h' : Heap} {a : Addr} {L : List Str} (R : TxS P w h a L) (k : ∀ o, h.get? a = some o → h'.get? a = some o) : TxS P w h' a L :=
  match R with
  | ⟨o, es, ep, t, q, T⟩ => ⟨o, es, ep, t, k o q, T⟩
theorem TxO.len {o : Obj} {L : List Str} {es : Array (Int × Value)} {ep : Nat} {t : SetTable} (T : TxO P w o L es ep t) : es.size = L.length := by
  rw [← T.ks.length_eq, List.length_map, Array.length_toList]
theorem stp_nodup {L : List Str} (h : L.Nodup) (k : Str) : (stp L k).Nodup := by
  unfold stp
  split
  · exact h
  · rename_i hk
    rw [List.nodup_append]
    exact ⟨h, by simp, fun x hx y hy e => hk (by rw [← List.mem_singleton.mp hy, ← e]; exact hx)⟩
theorem txS_new {h : Heap} : TxS P w (h.push { cls := .type "set", dict := none, data := .set #[] 0 (.fresh 0 0 (!w.params.followText "set-order")) }) h.objs.size [] := by
  refine ⟨_, #[], 0, _, Heap.get?_push_size _ rfl, ⟨rfl, rfl, rfl⟩, rfl, fun e he => by simp at he, by simp, .nil, by decide, by rfl, List.Pairwise.nil, ?_⟩
  cases hq : w.params.followText "set-order" with
  | true => exact .inl rfl
  | false => exact .inr rfl
section
variable {A : Around} {E : Value → Shared → Prop} {s : Shared} {a : Addr} {L : List Str}
theorem put_here {h : Heap} {o : Obj} {es es' : Array (Int × Value)} {ep : Nat} {t t' : SetTable} (q : h.get? a = some o) (d : o.data = .set es ep t) :
    (h.update a (Obj.putSet es' t')).get? a = some { o with data := .set es' (ep + 1) t' } := by
  rw [← putSet_of es' t' d]
  exact Heap.get?_update_self _ q (by rw [putSet_of es' t' d]; rfl)
/-- behind the laying of a new one: the table may be laid anew -/
theorem tx_settle {f : Bool → Sem Unit} (hf : ∀ (b : Bool) (s1 : Shared) (Y : Unit → Shared → Prop), Y () s1 → wpAny (model P w) A (f b) Y E s1) {o : Obj} {es : Array (Int × Value)} {ep : Nat} {t : SetTable} (q : s.heap.get? a = some o) (d : o.data = .set es ep t)
    {M : List Str} {e1 : Array (Int × Value)} {t1 : SetTable} (T : ∀ o' : Obj, o'.cls = o.cls → o'.dict = o.dict → o'.slots = o.slots → ∀ n, o'.data = .set e1 n t1 → TxO P w o' M e1 n t1) {dm : Bool} {Y : Option Bool → Shared → Prop}
    (hY : ∀ h', Heap.SameBut a s.heap h' → TxS P w h' a M → Y (some true) { s with heap := h' }) :
    wpAny (model P w) A (do
        storeSet a e1 t1
        if (!dm && t1.tooFull) = true then (do
            f (relayAll t1 e1 (SetTable.grown e1.size)).2.2
            storeSet a (relayAll t1 e1 (SetTable.grown e1.size)).1 (relayAll t1 e1 (SetTable.grown e1.size)).2.1
            pure (some true))
        else pure (some true)) Y E s := by
  have T1 := T { o with data := .set e1 (ep + 1) t1 } rfl rfl rfl (ep + 1) rfl
  have q1 := put_here (es' := e1) (t' := t1) q d
  have b1 := Heap.SameBut.update s.heap a (Obj.putSet e1 t1)
  refine wpAny_bind (wpAny_storeSet_of q d ?_ (fits_of_scanBound T1.fw))
  split
  · have r1 := relayAll_perm t1 e1 (SetTable.grown e1.size)
    have r2 := relayAll_fits t1 e1 (SetTable.grown e1.size)
    have r3 := relayAll_ris t1 e1 (SetTable.grown e1.size)
    have r4 := relayAll_led t1 e1 (SetTable.grown e1.size)
    revert r1 r2 r3 r4
    generalize relayAll t1 e1 (SetTable.grown e1.size) = Z
    obtain ⟨e2, t2, g2⟩ := Z
    intro r1 r2 r3 r4
    dsimp only at r1 r2 r3 r4 ⊢
    have sz : e2.size = e1.size := by rw [← Array.length_toList, r1.length_eq, Array.length_toList]
    have fw2 : e2.size < scanBound := sz.symm ▸ T1.fw
    refine wpAny_bind (hf _ _ _ (wpAny_bind (wpAny_storeSet_of q1 rfl ?_ (fits_of_scanBound fw2))))
    refine wpAny_pure (hY _ (b1.trans (Heap.SameBut.update _ a _)) ⟨_, e2, ep + 1 + 1, t2, put_here q1 rfl, ?_⟩)
    exact ⟨T1.ex, rfl, fun e he => T1.el e (r1.mem_iff.mp he), (r1.map keyT).trans T1.ks, T1.nd, fw2, r2, r3, T1.ld.imp id fun z => r4.trans z⟩
  · exact wpAny_pure (hY _ b1 ⟨_, e1, _, t1, q1, T1⟩)
theorem TxS.hadd {k : Str} {u : Tok} {Q : Bool → Shared → Prop} (R : TxS P w s.heap a L) (room : L.length + 1 < scanBound)
    (hQ : ∀ b h', Heap.SameBut a s.heap h' → TxS P w h' a (stp L k) → Q b { s with heap := h' }) :
    wpAny (model P w) A (setAddHashed a (.str k u) ((PySem.strKind P w).hash k)) Q E s := by
  obtain ⟨o, es, ep, t, q, T⟩ := R
  have el := txElems T.el
  have mine : (PySem.strKind P w).is k (.str k u) = true := strKind_is P w k u
  unfold setAddHashed setAddHashedIn
  refine wpAny_holding (wpAny_bind (wpAny_setState_of q T.dt T.ft ?_))
  dsimp only
  rw [byScan_of (x := .str k u) rfl T.fw el, if_pos rfl]
  unfold setAddByScan
  refine wpAny_bind (wpAny_bind (wpAny_rule (wpAny_bind (wpAny_setScan_of mine q T.dt T.ft el ?_))))
  cases fd : List.findIdx? (fun e => (PySem.strKind P w).is k e.2) es.toList with
  | some j =>
    obtain ⟨hj, pj, _⟩ := List.findIdx?_eq_some_iff_getElem.mp fd
    have inL : k ∈ L := T.ks.mem_iff.mp (List.mem_map.mpr ⟨_, List.getElem_mem hj, ((T.el _ (List.getElem_mem hj)).key k).mp pj⟩)
    refine wpAny_pure (wpAny_pure (hQ _ s.heap (Heap.SameBut.refl a s.heap) ⟨o, es, ep, t, q, ?_⟩))
    unfold stp
    rw [if_pos inL]
    exact T
  | none =>
    have outL : k ∉ L := fun z => by
      obtain ⟨e, he, hk⟩ := List.mem_map.mp (T.ks.mem_iff.mpr z)
      have c := List.findIdx?_eq_none_iff.mp fd e he
      rw [((T.el e he).key k).mpr hk] at c
      cases c
    have quiet : ∀ (b : Bool) (s1 : Shared) (Y : Unit → Shared → Prop), Y () s1 → wpAny (model P w) A (match b with | true => rule "set.scan.the-table-gave-way" | false => pure ()) Y E s1 :=
      fun b s1 Y y => by cases b <;> first | exact wpAny_pure y | exact wpAny_rule y
    have l1 := layNew_perm t es ((PySem.strKind P w).hash k) (.str k u)
    have l2 := layNew_fits t es ((PySem.strKind P w).hash k) (.str k u)
    have l3 := layNew_ris t es ((PySem.strKind P w).hash k) (.str k u) T.ri
    have l4 := layNew_led t es ((PySem.strKind P w).hash k) (.str k u)
    dsimp only
    revert l1 l2 l3 l4
    generalize layNew t es ((PySem.strKind P w).hash k) (.str k u) = Z
    obtain ⟨e1, t1, dm, gv⟩ := Z
    intro l1 l2 l3 l4
    dsimp only at l1 l2 l3 l4 ⊢
    rw [Array.toList_push] at l1
    have ks1 : (e1.toList.map keyT).Perm (L ++ [k]) := by
      have z := l1.map keyT
      rw [List.map_append] at z
      exact z.trans (T.ks.append_right _)
    have e1k : stp L k = L ++ [k] := by unfold stp; rw [if_neg outL]
    have nd1 : (L ++ [k]).Nodup := e1k ▸ stp_nodup T.nd k
    have el1 : ∀ e ∈ e1.toList, IsTx P w e := fun e he => by
      rcases List.mem_append.mp (l1.mem_iff.mp he) with z | z
      · exact T.el e z
      · rw [List.mem_singleton.mp z]; exact ⟨k, u, rfl, rfl⟩
    have fw1 : e1.size < scanBound := by
      have z := ks1.length_eq
      rw [List.length_map, Array.length_toList, List.length_append] at z
      rw [z]; exact room
    have made : ∀ t2 : SetTable, t2.fits e1.size = true → Ris t2.place.toList → (w.params.followText "set-order" = true ∨ t2.led = true) →
        ∀ o' : Obj, o'.cls = o.cls → o'.dict = o.dict → o'.slots = o.slots → ∀ n, o'.data = .set e1 n t2 → TxO P w o' (L ++ [k]) e1 n t2 := fun t2 a1 a2 a3 o' c1 c2 c3 n c4 =>
      ⟨by obtain ⟨x1, x2, x3⟩ := T.ex; exact ⟨c1.trans x1, c2.trans x2, c3.trans x3⟩, c4, el1, ks1, nd1, fw1, a1, a2, a3⟩
    have ld1 : w.params.followText "set-order" = true ∨ t1.led = true := T.ld.imp id fun z => l4.trans z
    refine wpAny_bind (quiet _ _ _ ?_)
    split
    · refine wpAny_bind (m := hashByValue 8 (Value.str k u)) ?_
      rw [hashByValue_scannable 8 (x := .str k u) rfl]
      refine wpAny_pure (tx_settle (fun b s1 Y y => quiet b s1 Y y) q T.dt (M := L ++ [k]) ?_ fun h' sb r => wpAny_pure (hQ _ h' sb (e1k.symm ▸ r)))
      first
        | exact made _ (SetTable.fits_plain_off l2) l3 ld1
        | exact made _ l2 l3 ld1
        | (split <;> first | exact made _ (SetTable.fits_plain_off l2) l3 ld1 | exact made _ l2 l3 ld1)
    · refine wpAny_bind (wpAny_pure ?_)
      rw [if_pos rfl]
      exact tx_settle (fun b s1 Y y => quiet b s1 Y y) q T.dt (M := L ++ [k]) (made _ l2 l3 ld1) fun h' sb r => wpAny_pure (hQ _ h' sb (e1k.symm ▸ r))
end
end
end DL

namespace DL
open PySem PySem.Spec PyProof.Rows L2

/-! ## texts in order -/
def tle (a b : Str) : Bool := decide (a.cps.toList ≤ b.cps.toList)
def sorT (L : List Str) : List Str := L.mergeSort tle
theorem tle_trans (a b c : Str) : tle a b = true → tle b c = true → tle a c = true := by
  unfold tle
  simp only [decide_eq_true_eq]
  exact fun x y => List.le_trans x y
theorem tle_total (a b : Str) : (tle a b || tle b a) = true := by
  unfold tle
  simp only [Bool.or_eq_true, decide_eq_true_eq]
  exact List.le_total ..
theorem tle_anti {a b : Str} (x : tle a b = true) (y : tle b a = true) : a = b := by
  unfold tle at x y
  simp only [decide_eq_true_eq] at x y
  have z := List.le_antisymm x y
  cases a; cases b
  simp only at z
  rw [Array.toList_inj.mp z]
theorem sorT_perm {L M : List Str} (h : L.Perm M) : sorT L = sorT M :=
  List.Perm.eq_of_pairwise (le := fun a b => tle a b = true) (fun _ _ _ _ x y => tle_anti x y) (List.pairwise_mergeSort tle_trans tle_total L) (List.pairwise_mergeSort tle_trans tle_total M)
    ((List.mergeSort_perm L tle).trans (h.trans (List.mergeSort_perm M tle).symm))
theorem sorT_len (L : List Str) : (sorT L).length = L.length := List.length_mergeSort ..
theorem sorT_mem {L : List Str} {k : Str} : k ∈ sorT L ↔ k ∈ L := List.mem_mergeSort
section
variable {P : Program} {w : World} {A : Around} {E : Value → Shared → Prop} {s : Shared} {a : Addr} {L : List Str}
theorem TxS.type {h : Heap} (R : TxS P w h a L) : ∃ o, h.get? a = some o ∧ o.cls = .type "set" :=
  match R with
  | ⟨o, _, _, _, q, T⟩ => ⟨o, q, T.ex.1⟩
/-- found.add(text) -/
theorem TxS.add {k : Str} {u : Tok} {Q : Value → Shared → Prop} (R : TxS P w s.heap a L) (room : L.length + 1 < scanBound)
    (hQ : ∀ h', Heap.SameBut a s.heap h' → TxS P w h' a (stp L k) → Q .none { s with heap := h', toks := s.toks + 1 }) : wpAny (model P w) A (call (.builtin "set.add") [.ref a, .str k u]) Q E s := by
  refine wpAny_call_entry PySem.F.slot_set_add R.type PySem.F.entry_set_add ?_ (PySem.F.args_set_add_2 _ _)
  unfold Builtin.«set.add» Builtin.Frozenset.oneOther Builtin.Frozenset.addrOf setAdd
  simp only [List.isEmpty_nil, bind_assoc]
  refine wpAny_bind (wpAny_pure ?_)
  refine wpAny_bind (wpAny_pure ?_)
  refine wpAny_bind (wpAny_holding (wpAny_bind ((PySem.strKind P w).pyHash (strKind_is P w k u) ?_)))
  refine TxS.hadd (s := { s with toks := s.toks + 1 }) R room fun b h' sb r => ?_
  exact wpAny_pure ⟨_, rfl, hQ h' sb r⟩
theorem each_txt : ∀ {us : List Value} {es : List (Int × Value)}, (∀ e ∈ es, IsTx P w e) → us = es.map (·.2) → PySem.W.EachIs (fun u (k : Str) => ∃ t, u = Value.str k t) us (es.map keyT)
  | _, [], _, rfl => .nil
  | _, (i, v) :: r, g, rfl => by
    obtain ⟨k, u, h1, _⟩ := g _ List.mem_cons_self
    have h1 : v = .str k u := h1
    subst h1
    exact .cons ⟨u, rfl⟩ (each_txt (fun e he => g e (List.mem_cons_of_mem _ he)) rfl)
theorem each_mem_txt : ∀ {us : List Value}, (∀ u ∈ us, ∃ k t, u = Value.str k t) → ∃ ks, PySem.W.EachIs (fun u (k : Str) => ∃ t, u = Value.str k t) us ks ∧ ks = us.map fun u => keyT (0, u)
  | [], _ => ⟨[], .nil, rfl⟩
  | u :: r, g => by
    obtain ⟨k, t, rfl⟩ := g u List.mem_cons_self
    obtain ⟨ks, h1, h2⟩ := each_mem_txt fun v hv => g v (List.mem_cons_of_mem _ hv)
    exact ⟨k :: ks, .cons ⟨t, rfl⟩ h1, by rw [h2]; rfl⟩
/-- sorted(a set of texts) -/
theorem TxS.sorted {Q : Value → Shared → Prop} (R : TxS P w s.heap a L) (hh : A.handled = none) (hu : A.units + 8 < cLine)
    (hQ : ∀ s' p (out : List Value) (c : Nat), (∀ b o, s.heap.get? b = some o → s'.heap.get? b = some o) → s'.gens = s.gens → s'.os = s.os → s.heap.objs.size ≤ p →
      s'.heap.get? p = some (seqObj "list" out.toArray c) → PySem.W.EachIs (fun u (k : Str) => ∃ t, u = Value.str k t) out (sorT L) → Q (.ref p) s') :
    wpAny (model P w) A (call (.builtin "sorted") [.ref a]) Q E s := by
  obtain ⟨o, es, ep, t, q, T⟩ := R
  have few : L.length < scanBound := T.len ▸ T.fw
  refine Calls.call_function_entry kind_sorted plain_sorted entry_sorted (args_sorted1 _) ?_
  unfold Builtin.«sorted»
  refine wpAny_bind (m := checkCount "sorted" 1 1 _) (wpAny_pure ?_)
  refine wpAny_bind (collect_set (A := A.in1) hh ⟨o, q, T.ex.1, T.dt⟩ T.ft T.fw T.ri T.ld fun s1 vs k1 z1 g1 o1 pm => ?_)
  obtain ⟨ks, ek, eks⟩ := each_mem_txt (us := vs) fun u hv => by
    obtain ⟨e, he, rfl⟩ := List.mem_map.mp (pm.mem_iff.mp hv)
    obtain ⟨k, t, h1, _⟩ := T.el e he
    exact ⟨k, t, h1⟩
  have kp : ks.Perm L := by
    rw [eks]
    refine (pm.map _).trans ?_
    rw [List.map_map]
    exact T.ks
  have vl : vs.length = L.length := by rw [pm.length_eq, List.length_map, Array.length_toList, T.len]
  have line : scanBound ≤ sizeLine := by rw [sizeLine_eq]; decide
  refine wpAny_bind (wpAny_newList ?_ (by rw [vl]; omega))
  have at1 : (s1.heap.push (seqObj "list" vs.toArray 0)).get? s1.heap.objs.size = some (seqObj "list" vs.toArray 0) := Heap.get?_push_size _ rfl
  have er : PySem.W.EachIs (fun v (b : Str) => ∃ as, Reads (s1.heap.push (seqObj "list" vs.toArray 0)) v (PyData.str b) as ∧ s1.heap.objs.size ∉ as) vs ks := ek.mono fun u k ⟨t, e⟩ => ⟨[], by rw [e]; exact .str _ _, by simp⟩
  have ke : ks.map PyData.str = L.map PyData.str ∨ True := .inr trivial
  have alk : PySem.W.AllAlike (ks.map PyData.str) := fun d hd d' hd' => by
    obtain ⟨x, _, rfl⟩ := List.mem_map.mp hd
    obtain ⟨y, _, rfl⟩ := List.mem_map.mp hd'
    rfl
  have srt : PySem.W.Sortable (ks.map PyData.str) := .inr fun d hd => by
    obtain ⟨x, _, rfl⟩ := List.mem_map.mp hd
    refine ⟨?_, ?_⟩ <;> intros <;> simp
  refine wpAny_bind (wpAny_holding ?_)
  refine PySem.W.list_sort_data (s := { s1 with heap := s1.heap.push (seqObj "list" vs.toArray 0) }) (bs := ks) (enc := PyData.str) (R := fun u (k : Str) => ∃ t, u = Value.str k t) at1 ek er alk srt ?_ (fun b _ => ?_) fun out ol eo => ?_
  · rw [kp.length_eq]; omega
  · have dp : (PyData.str b).depth ≤ 1 := by first | exact Nat.le_refl _ | exact Nat.zero_le _ | (unfold PyData.depth; omega)
    show A.in1.units + 1 + (PyData.str b).depth < cLine
    have : A.in1.units ≤ A.units + 4 := by first | exact Nat.le_add_right (A.units + 1) 3 | (simp [Around.in1]; omega)
    omega
  · obtain ⟨c, hc⟩ := sortedHeap_at (vs := vs) (out := out.toArray) at1
    have se : ks.mergeSort (PySem.W.dataLe false PyData.str) = sorT L := by
      have z : PySem.W.dataLe false PyData.str = tle := PySem.W.dataLe_str (fun b => b)
      rw [z]
      exact sorT_perm kp
    rw [se] at eo
    refine wpAny_pure ⟨_, rfl, ?_⟩
    refine hQ { s1 with heap := sortedHeap (s1.heap.push (seqObj "list" vs.toArray 0)) s1.heap.objs.size vs out.toArray } s1.heap.objs.size out c (fun b u e => ?_) g1 o1 z1 hc eo
    have e1 := k1 b u e
    have lt := Heap.lt_size e1
    refine (sortedHeap_old (Nat.ne_of_lt lt) ?_).trans (Heap.get?_push_of_some _ e1)
    rw [Heap.size_push]
    exact Nat.lt_succ_of_lt lt
end
end DL

namespace DL
open PySem PySem.Spec PyProof.Rows L2

/-! ## set(a list of texts), sorted(set(..)) -/
section
variable {prog : Program} {w : World} {A : Around} {R : Result → Shared → Prop} {I : Addr} {fp wr : List Addr} {G : Array GenState → Array GenState → Prop} {n : Nat} {P : Nat → Value → Prop} {St : Nat → Shared → Prop}
theorem tx_loop (Wk : WalksS prog w A.in1 I fp wr G n P St) (S : Addr) (out : S ∉ fp) (xs : List Str) (hn : xs.length = n) (few : n + 1 < scanBound) (val : ∀ i v, P i v → ∃ t, v = .str (xs.getD i Str.empty) t) :
    ∀ (m i : Nat) (s : Shared), n - i = m → i ≤ n → St i s → TxS prog w s.heap S (uniq (xs.take i)) →
      (∀ s', Moved (S :: wr) G s s' → TxS prog w s'.heap S (uniq xs) → R (.ok (.ret .none)) s') →
      codeAny (model prog w) A (.builtin "set.update.loop" ⟨[.ref S, .ref I], []⟩) R s := by
  have notW : S ∉ wr := fun h => out (Wk.sub _ h)
  have more : ∀ b ∈ wr, b ∈ S :: wr := fun b hb => .tail _ hb
  intro m
  induction m with
  | zero =>
    intro i s e1 e2 st hS fin
    obtain rfl : i = n := by omega
    rw [show xs.take i = xs from List.take_of_length_le (by omega)] at hS
    refine codeAny_builtin F.entry_set_update_loop ?_
    rw [Around.under_plainId F.plain_set_update_loop _]
    refine wpAny_bind (m := pyNext (.ref I)) (Wk.done s _ _ st fun s' hm => ?_)
    exact wpAny_pure (fin s' (hm.mono more) (hS.keep (hm.heap S · notW)))
  | succ m ih =>
    intro i s e1 e2 st hS fin
    have lt : i < n := by omega
    refine codeAny_builtin F.entry_set_update_loop ?_
    rw [Around.under_plainId F.plain_set_update_loop _]
    refine wpAny_bind (m := pyNext (.ref I)) (Wk.item i s _ _ lt st fun v s' hP st' hm => ?_)
    obtain ⟨t, rfl⟩ := val i v hP
    have hS1 := hS.keep (hm.heap S · notW)
    refine wpAny_bind (m := holding [Value.str (xs.getD i Str.empty) t] (setAdd S (.str (xs.getD i Str.empty) t))) (wpAny_holding ?_)
    unfold setAdd
    refine wpAny_holding (wpAny_bind ((strKind prog w).pyHash (k := xs.getD i Str.empty) (strKind_is _ _ _ _) ?_))
    have room : (uniq (xs.take i)).length + 1 < scanBound := by
      have h1 := uniq_le (xs.take i)
      rw [List.length_take] at h1
      omega
    refine TxS.hadd (s := { s' with toks := s'.toks + 1 }) hS1 room fun _ h' hsb hS2 => ?_
    rw [← uniq_take (by omega)] at hS2
    have still : ∀ b, b ≠ S → ∀ o, s'.heap.get? b = some o → h'.get? b = some o := fun b nb o e => (hsb.2 b nb).symm ▸ e
    refine wpAny_pure ⟨plainId_quiet F.plain_set_update_loop _, ih (i + 1) _ (by omega) lt (Wk.frame _ s' _ _ st' (Nat.le_succ _) fun b hb o e => still b (fun q => out (q ▸ hb)) o e) hS2 fun s2 hm2 hS4 => ?_⟩
    exact fin s2 (Moved.trans Wk.gtrans ((hm.mono more).then_heap (Nat.le_succ _) fun b o hb e => still b (fun q => hb (q ▸ List.mem_cons_self)) o e) hm2) hS4
end
section
variable {prog : Program} {w : World} {A : Around} {E : Value → Shared → Prop} {s : Shared}
abbrev emptyS (w : World) : Obj := newSet (!w.params.followText "set-order")
theorem set_made (x : Value) {Y : Value → Shared → Prop} (h : Y (.ref s.heap.objs.size) { s with heap := s.heap.push (emptyS w) }) : codeAny (model prog w) A (.call (.builtin "set.__new__") ⟨[.type "set", x], []⟩) (wants Y E) s := by
  have hsub := sub_set_self
  refine codeAny_of_tree (show wpAny _ A.in1 (checkBuiltinCall "set.__new__" ⟨[.type "set", x], []⟩ >>= fun _ => again (.builtin "set.__new__" ⟨[.type "set", x], []⟩)) _ _ s from ?_)
  refine wpAny_bind (wpAny_of_eq (F.newCall_set_1 x) (wpAny_pure ⟨plainId_quiet F.plain_set_new _, codeAny_builtin F.entry_set_new ?_⟩))
  rw [Around.under_plainId F.plain_set_new _]
  unfold Builtin.«set.__new__» Builtin.Frozenset.newClass
  obtain ⟨hp0, gens0, drawn0, toks0, os0⟩ := s
  dsimp only
  wp_walk
  refine wpAny_askSetting (wpAny_pure ?_)
  simp only [newObj]
  exact wpAny_bind (wpAny_alloc (wpAny_pure (wpAny_pure h)))
theorem tx_of_list {l : Addr} {its : Array Value} {xs : List Str} {Q : Value → Shared → Prop} (calm : A.handled = none) (hl : s.heap.IsList l its) (ht : StrsAre its.toList xs) (few : xs.length + 1 < scanBound)
    (h : ∀ (h' : Heap) (tk : Nat), TxS prog w h' s.heap.objs.size (uniq xs) → (∀ b o, b < s.heap.objs.size → s.heap.get? b = some o → h'.get? b = some o) → Q (.ref s.heap.objs.size) { s with heap := h', toks := tk }) :
    wpAny (model prog w) A (call (.type "set") [.ref l]) Q E s := by
  obtain ⟨c, tl, hmro⟩ := PySem.F.called_set.mro
  have m1 := PySem.F.called_set.made
  have m2 := PySem.F.called_set.sub
  have m3 := PySem.F.called_set.notType
  have m4 := PySem.F.called_set.canCreate
  have m5 := PySem.F.typeCall_set_1 (.ref l)
  refine wpAny_call (codeAny_of_tree ?_)
  refine (show wpAny _ _ (callAny (Value.type "set") _) _ _ s from ?_)
  have quiet := Code.quiet_builtin (id := "type.__call__") ⟨[.type "set", .ref l], []⟩ (by decide +kernel)
  refine wpAny_pure ⟨quiet, codeAny_builtin PySem.F.entry_type_call ?_⟩
  rw [Around.under_plain (weight_type_call_type "set" [.ref l] []) rfl]
  repeat (any_goals (first | assumption | wp_step))
  have fresh : (s.heap.push (emptyS w)).get? s.heap.objs.size = some (emptyS w) := Heap.get?_push_size _ rfl
  refine codeAny_mono (set_made (.ref l) (E := E) (Y := fun ob s1 => ob = .ref s.heap.objs.size ∧ s1 = { s with heap := s.heap.push (emptyS w) }) ⟨rfl, rfl⟩) fun r s1 hr => ?_
  rcases r with er | fl
  · exact hr
  cases fl with
  | ret ob =>
    obtain ⟨rfl, rfl⟩ := hr
    have n1 : Shared.TypeIs { s with heap := s.heap.push (emptyS w) } (.ref s.heap.objs.size) "set" := ⟨_, fresh, rfl⟩
    have n2 := PySem.F.called_set.init.lookup
    have n3 := PySem.F.called_set.init.bind (.ref s.heap.objs.size)
    repeat (any_goals (first | assumption | wp_step))
    let Done : Value → Shared → Prop := fun r s2 => r = .none ∧ ∃ h' tk, s2 = { s with heap := h', toks := tk } ∧ TxS prog w h' s.heap.objs.size (uniq xs) ∧
      (∀ b o, b < s.heap.objs.size → s.heap.get? b = some o → h'.get? b = some o)
    refine codeAny_mono (codeAny_call_builtin (R := wants Done E) PySem.F.called_set.init.plain PySem.F.entry_set_init (check_set_init_1 n1 ?_)) fun r2 s2 hr2 => ?_
    · obtain ⟨⟨oc, od, odt, osl⟩, ho, hc, nl, hd⟩ := hl
      dsimp only at hc hd
      subst hc hd
      have low : l < s.heap.objs.size := Heap.lt_size ho
      have ho1 : (s.heap.push (emptyS w)).get? l = some { cls := .type "list", dict := od, data := .seq its nl, slots := osl } := Heap.get?_push_of_some _ ho
      have il : (s.heap.push (emptyS w)).IsList l its := ⟨_, ho1, rfl, nl, rfl⟩
      have q1 := PySem.F.sub_list_set
      have q2 := PySem.F.sub_list_frozenset
      have q3 : (Value.type "list" == Value.type "dict") = false := by decide
      unfold Builtin.«set.__init__» noKeywords Builtin.Frozenset.updateFrom
      generalize hPI : pyIter = PI
      wp_walk
      subst hPI
      refine wpAny_pyIter_list il (wpAny_bind (wpAny_runValue ?_))
      have calm3 : A.in1.in1.in1.handled = none := by simp [calm]
      have sz1 : (s.heap.push (emptyS w)).objs.size = s.heap.objs.size + 1 := Heap.size_push ..
      have neI : l ≠ (s.heap.push (emptyS w)).objs.size := by rw [sz1]; exact Nat.ne_of_lt (Nat.lt_succ_of_lt low)
      have outS : s.heap.objs.size ∉ [(s.heap.push (emptyS w)).objs.size, l] := by
        rw [sz1]
        intro z
        rcases List.mem_cons.mp z with e | e
        · exact absurd e (Nat.ne_of_lt (Nat.lt_succ_self _))
        · exact absurd (List.mem_singleton.mp e) (Nat.ne_of_gt low)
      have len : xs.length = its.size := (StrsAre.len_eq ht).symm.trans Array.length_toList
      have vals : ∀ (i : Nat) (v : Value), its[i]? = some v → ∃ t, v = .str (xs.getD i Str.empty) t := fun i v hv => SS.strs_at ht i v ((Array.getElem?_toList ..).trans hv)
      refine tx_loop (Walks.list calm3 _ l neI its).toS s.heap.objs.size outS xs len (by rw [← len]; exact few) vals (its.size - 0) 0 _ (by omega) (Nat.zero_le _) ⟨⟨_, Heap.get?_push_size _ rfl, rfl, rfl⟩, il.push _⟩ ?_ ?_
      · exact (txS_new (P := prog) (w := w) (h := s.heap)).keep fun o e => Heap.get?_push_of_some _ e
      · rintro ⟨h', g', d', tk', os'⟩ hm hS
        obtain rfl : g' = s.gens := hm.gens
        obtain rfl : d' = s.drawn := hm.drawn
        obtain rfl : os' = s.os := hm.os
        refine (show wpAny _ _ (pure ()) _ _ _ from wpAny_pure ?_)
        refine wpAny_pure ⟨rfl, h', tk', rfl, hS, fun b o hb e => ?_⟩
        refine hm.heap b o ?_ (Heap.get?_push_of_some _ (Heap.get?_push_of_some _ e))
        rw [sz1]
        intro z
        rcases List.mem_cons.mp z with e | e
        · exact absurd e (Nat.ne_of_lt hb)
        · exact absurd (List.mem_singleton.mp e) (Nat.ne_of_lt (Nat.lt_succ_of_lt hb))
    · rcases r2 with er | fl2
      · exact hr2
      cases fl2 with
      | ret r =>
        obtain ⟨rfl, h', tk, rfl, hS, keep⟩ := hr2
        repeat (any_goals (first | assumption | wp_step))
        exact h _ _ hS keep
      | _ => exact hr2.elim
  | _ => exact hr.elim
end
section
variable {X : Cx} {C : CC} {W : WX} {a : Expr} {ma : E D} {p p2 q pos : Pos} {k : Nat}
theorem txt_vals : ∀ {us : List Value} {ks : List Str}, PySem.W.EachIs (fun u (k : Str) => ∃ t, u = Value.str k t) us ks → Vals (ks.map V.str) us
  | _, _, .nil => .nil
  | _, _, .cons ⟨t, e⟩ r => .cons ⟨t, e⟩ (txt_vals r)
/-- a text set's members, laid in order as a new list -/
theorem sorted_new {pins : List (Addr × Obj)} {σ : L2.St} {H : Hp} {s : Shared} {b : Addr} {L : List Str} {Q : VK} (hu : X.A.units + 65 < cLine) (calm : X.calm = true) (I : Inv X pins σ H s) (R : TxS X.prog X.w s.heap b L)
    (q : ∀ r, H r = none → Q (.ref r) (upd H r (.lst ((sorT L).map V.str)))) : wpAny (model X.prog X.w) X.A (call (.builtin "sorted") [.ref b]) (EP X pins σ Q) X.xe s := by
  have few : L.length < scanBound := by
    obtain ⟨o, es, ep, t, h, T⟩ := R
    exact T.len ▸ T.fw
  refine TxS.sorted R (I.ok.hd calm) (by omega) fun s' r out c k g o hp at' eo => ?_
  have free : H r = none := I.hok.fresh hp
  have line : scanBound ≤ sizeLine := by rw [sizeLine_eq]; decide
  have hlen : ((sorT L).map V.str).length ≤ sizeLine := by rw [List.length_map, sorT_len]; omega
  have J : Inv X pins σ (upd H r (.lst ((sorT L).map V.str))) { s with heap := s'.heap, gens := s'.gens, drawn := s'.drawn, toks := s'.toks } :=
    I.call (ch := []) (Un.laid k hp free) (I.hok.laid k hp ⟨hlen, out, c, txt_vals eo, at'⟩) (by rw [g]; exact I.bare) (fun _ z => nomatch z)
  have e : s' = { s with heap := s'.heap, gens := s'.gens, drawn := s'.drawn, toks := s'.toks } := by
    cases s'
    cases s
    cases o
    rfl
  rw [e]
  exact ⟨.ref r, _, J, rfl, q r free⟩
def fSortSet : D → E (List D)
  | .lst ds => fun ρ Q _ z => ∃ ys, strsOf ds = some ys ∧ ys.length < 4000 ∧ Q ((sorT (uniq ys)).map D.str) ρ z
  | _ => eStuck
@[simp] theorem fSortSet_a (ds : List D) (ρ : Rho) (Q : List D → Rho → Zs → Prop) (X : Er → Rho → Zs → Prop) (z : Zs) : fSortSet (.lst ds) ρ Q X z = ∃ ys, strsOf ds = some ys ∧ ys.length < 4000 ∧ Q ((sorT (uniq ys)).map D.str) ρ z := propext Iff.rfl
theorem RpL.txt {K : PySem.W.Frag} {mg : Str → Option Value} {pa : Option Addr} {F : Hp} : ∀ ks : List Str, RpL K mg pa F (ks.map V.str) (ks.map D.str)
  | [] => .nil
  | k :: r => .cons (.str k) (RpL.txt r)
theorem xo_sortSet (kx : Kx X C W k) (hg : Gl X "sorted") (hm : X.mg "sorted" = none) (hg2 : Gl X "set") (hm2 : X.mg "set" = none) (ha : XP X C W a ma) (h1 : S1 X a := by rfl) :
    XO X C W (.Call (.Name "sorted" p) [.Call (.Name "set" p2) [a] [] q] [] pos) (eb ma fSortSet) := by
  obtain ⟨t, t1, t2⟩ := ha.ex
  refine ⟨fun σ H Q => t σ H fun x H1 => ∃ (l : Addr) (ys : List Str), x = V.ref l ∧ SqL X.K H1 l (ys.map V.str) ∧ ys.length < 4000 ∧ ∀ r, H1 r = none → Q (.ref r) (upd H1 r (.lst ((sorT (uniq ys)).map V.str))), ⟨fun pins s σ H Q I h => ?_⟩, ?_⟩
  · refine Call_ (ld_blt I hg hm boot_sorted (callWith_builtin1 (args_cons ?_ rfl) rfl rfl))
    refine Call_ (ld_blt I hg2 hm2 boot_set (callWith_type1 (args_cons (thn (t1.run pins s σ H _ I h) fun v s1 ⟨x, H1, I1, r1, q1⟩ => args_nil ?_) h1) h1 rfl))
    obtain ⟨l, ys, rfl, hs, few, q1⟩ := q1
    obtain rfl : v = Value.ref l := r1
    obtain ⟨its, r, pl, hz⟩ := I1.list hs
    refine tx_of_list (I1.ok.hd kx.calm) pl.isList (xs := ys) (by simpa using strsAre_of r) (by unfold scanBound; omega) fun h' tk hS keep => args_nil ?_
    have I2 : Inv X pins σ H1 { s1 with heap := h', toks := tk } := I1.kept fun b o e => keep b o (Heap.lt_size e) e
    exact sorted_new kx.hu kx.calm I2 hS q1
  · refine den_un (r := fun x H1 Q => ∃ (l : Addr) (ys : List Str), x = V.ref l ∧ SqL X.K H1 l (ys.map V.str) ∧ ys.length < 4000 ∧ ∀ r, H1 r = none → Q (.ref r) (upd H1 r (.lst ((sorT (uniq ys)).map V.str)))) back_O t2 fun σ ρ F H z x dx Qd Xd Q S rx hm hq hx => ?_
    cases dx with
    | lst ds =>
      obtain ⟨l, xs, rfl, hl, rl, _⟩ := RT.lst S.sub rx
      obtain ⟨ys, e1, few, w⟩ := hm
      obtain rfl := RpL.strs rl e1
      exact ⟨l, ys, rfl, .inl (.inl hl), few, fun r hr => S.newL hr (RpL.txt _) w hq⟩
    | _ => exact False.elim hm
end
end DL

namespace DL
open PySem PySem.Spec PyProof.Rows L2

/-! ## {text for .. in .. for .. in ..} -/
abbrev testsE (ifs : List Expr) (env : PySem.Env) : Sem Bool := forIn ifs true fun c r => if r = true then do let ok ← isTrue c env (eval c env); pure (ForInStep.yield ok) else pure (ForInStep.yield r)
/-- one turn of one clause; `what` is done where the tests hold -/
def turnBy (tg iter : Expr) (ifs : List Expr) (what : Sem Unit) (c : Code) (it : Value) (env : PySem.Env) : Sem Fin := do
  standAt iter.pos
  match ← pyNext it with
  | none => pure (.done .next)
  | some v =>
    letOwnedTupleGo tg it v
    assign tg env v
    let ok ← testsE ifs env
    if ok then (do what; again c) else again c
section
variable {P : Program} {w : World} {A : Around} {R : Result → Shared → Prop} {s : Shared} {elt t0 i0 t1 i1 : Expr} {ifs0 ifs1 : List Expr} {scope : Scope} {pos : Pos} {it acc : Value} {env : PySem.Env}
abbrev scE (elt t0 i0 t1 i1 : Expr) (ifs0 ifs1 : List Expr) (scope : Scope) (pos : Pos) : Expr := .SetComp elt [⟨t0, i0, ifs0, 0⟩, ⟨t1, i1, ifs1, 0⟩] scope pos
def laysText (elt : Expr) (acc : Value) (env : PySem.Env) : Sem Unit := do
  let v ← eval elt env
  standAt elt.pos
  let _ ← call (.builtin "set.add") [acc, v]
def goesIn (e i1 : Expr) (acc : Value) (env : PySem.Env) : Sem Unit := do
  let x ← eval i1 env
  standAt i1.pos
  let x ← foldedSetIterable i1 env x
  let _ ← runOwn (.compStart e 1 (← holding [x] (pyIter x)) acc env) env
theorem turn_in : compTurn (scE elt t0 i0 t1 i1 ifs0 ifs1 scope pos) 1 it acc env = turnBy t1 i1 ifs1 (laysText elt acc env) (.compLoop (scE elt t0 i0 t1 i1 ifs0 ifs1 scope pos) 1 it acc env) it env := by rfl
theorem turn_out : compTurn (scE elt t0 i0 t1 i1 ifs0 ifs1 scope pos) 0 it acc env =
    turnBy t0 i0 ifs0 (goesIn (scE elt t0 i0 t1 i1 ifs0 ifs1 scope pos) i1 acc env) (.compLoop (scE elt t0 i0 t1 i1 ifs0 ifs1 scope pos) 0 it acc env) it env := by
  unfold turnBy goesIn
  simp only [bind_assoc, pure_bind]
  rfl
end
end DL

namespace DL
open PySem PySem.Spec PyProof.Rows L2
section
variable {P : Program} {w : World} {A : Around} {R : Result → Shared → Prop} {s : Shared} {tg iter : Expr} {ifs : List Expr} {what : Sem Unit} {it acc : Value} {env : PySem.Env} {elt t0 i0 t1 i1 : Expr} {ifs0 ifs1 : List Expr} {scope : Scope} {pos : Pos} {d : Nat}
/-- a clause's loop by its turns, nothing raises -/
theorem loopBy (hT : compTurn (scE elt t0 i0 t1 i1 ifs0 ifs1 scope pos) d it acc env = turnBy tg iter ifs what (.compLoop (scE elt t0 i0 t1 i1 ifs0 ifs1 scope pos) d it acc env) it env) (I : Nat → Shared → Prop)
    (turn : ∀ n s, I n s → wpAny (model P w) A (pyNext it) (fun r s1 => (r = none ∧ R (.ok .next) s1) ∨ ∃ v, r = some v ∧
      wpAny (model P w) A (letOwnedTupleGo tg it v) (fun _ s2 => wpAny (model P w) A (assign tg env v) (fun _ s3 => wpAny (model P w) A (testsE ifs env) (fun ok s4 =>
        if ok = true then wpAny (model P w) A what (fun _ s5 => ∃ m, m < n ∧ I m s5) (fun _ _ => False) s4 else ∃ m, m < n ∧ I m s4) (fun _ _ => False) s3) (fun _ _ => False) s2) (fun _ _ => False) s1) (fun _ _ => False) s)
    (n : Nat) (h : I n s) : codeAny (model P w) A (.compLoop (scE elt t0 i0 t1 i1 ifs0 ifs1 scope pos) d it acc env) R s := by
  refine codeAny_loop rfl I (fun n s q => ?_) n h
  show wpAny _ A ((compTurn (scE elt t0 i0 t1 i1 ifs0 ifs1 scope pos) d it acc env).onRaise fun x => do noteFrame x env; theTreesLotGoes x) _ _ s
  refine wpAny_noted ?_
  rw [hT]
  unfold turnBy
  refine wpAny_bind (wpAny_standAt (wpAny_bind (thnF (turn n s q) fun r s1 h1 => ?_)))
  rcases h1 with ⟨rfl, h1⟩ | ⟨v, rfl, h1⟩
  · exact wpAny_pure h1
  · refine wpAny_bind (thnF h1 fun _ s2 h2 => wpAny_bind (thnF h2 fun _ s3 h3 => wpAny_bind (thnF h3 fun ok s4 h4 => ?_)))
    cases ok with
    | true =>
      rw [if_pos rfl] at h4 ⊢
      exact wpAny_bind (thnF h4 fun _ s5 h5 => wpAny_pure ⟨rfl, h5⟩)
    | false =>
      rw [if_neg Bool.false_ne_true] at h4 ⊢
      exact wpAny_pure ⟨rfl, h4⟩
end
/-- σ knows no more than τ -/
def Wk (σ τ : L2.St) : Prop := σ.length = τ.length ∧ ∀ (j : Nat) v, σ[j]? = some (some v) → τ[j]? = some (some v)
theorem Wk.of {σ τ : L2.St} {vs : List Nat} (h : wipe τ vs = σ) : Wk σ τ := by
  subst h
  exact ⟨wipe_length τ vs, fun j v e => (wipe_some e).1⟩
theorem Wk.trans {σ τ υ : L2.St} (a : Wk σ τ) (b : Wk τ υ) : Wk σ υ := ⟨a.1.trans b.1, fun j v e => b.2 j v (a.2 j v e)⟩
section
variable {Y : Cx} {tg iter : Expr} {ifs : List Expr} {what : Sem Unit} {acc : Value} {elt t0 i0 t1 i1 : Expr} {ifs0 ifs1 : List Expr} {scope : Scope} {pos : Pos} {d : Nat} {it : Addr} {fp : List Addr} {tn : Nat → Heap → Prop} {J : It} {R : Result → Shared → Prop} {pins : List (Addr × Obj)} {g : TG} {tt : TT} {σ0 : L2.St} {vs : List Nat}
theorem walkBy (hx : Y.xe = fun _ _ => False) (hc : Y.calm = true) (T : Turn Y.prog Y.w Y.K tg J fp it tn) (pg : PG Y tg g) (pt : PTs Y ifs tt) (hT : compTurn (scE elt t0 i0 t1 i1 ifs0 ifs1 scope pos) d (.ref it) acc Y.env = turnBy tg iter ifs what (.compLoop (scE elt t0 i0 t1 i1 ifs0 ifs1 scope pos) d (.ref it) acc Y.env) (.ref it) Y.env)
    (stat : ∀ {σ' : L2.St} {H' : Hp} {s' : Shared}, Inv Y pins σ' H' s' → (∀ b ∈ fp, H' b = none) → ∀ b ∈ fp, FpOk Y pins H' b) (W : Nat → Nat → Hp → Prop) (Qd : Hp → Prop) (EM : L2.St → Hp → (Hp → Prop) → Prop)
    (turn : ∀ i m H, W i m H → (J.stop i H ∧ Qd H) ∨ (J.go i H ∧ ∃ Nx : Hp → Prop, (∀ H', Nx H' → ∃ m', m' < m ∧ W (i + 1) m' H') ∧ ∀ x H', J.yld i H x H' → g x σ0 H' fun σ2 H2 => wipe σ2 vs = σ0 ∧ tt σ2 H2 fun b H3 => if b = true then EM σ2 H3 Nx else Nx H3))
    (em : ∀ (pl : List (Addr × Obj)) (σ2 : L2.St) (H3 : Hp) (s : Shared) (Nx : Hp → Prop) (N : Shared → Prop), Inv Y (pins ++ pl) σ2 H3 s → wipe σ2 vs = σ0 → EM σ2 H3 Nx →
      (∀ (s' : Shared) (H' : Hp) (σ' : L2.St), Inv Y (pins ++ pl) σ' H' s' → Wk σ0 σ' → Nx H' → N s') → wpAny (model Y.prog Y.w) Y.A what (fun _ s' => N s') (fun _ _ => False) s)
    (fin : ∀ (H : Hp) (s : Shared), Inv Y pins σ0 H s → Qd H → R (.ok .next) s) (m0 : Nat) (s : Shared) (H : Hp) (I : Inv Y pins σ0 H s) (st : tn 0 s.heap) (nf : ∀ b ∈ fp, H b = none) (w0 : W 0 m0 H) :
    codeAny (model Y.prog Y.w) Y.A (.compLoop (scE elt t0 i0 t1 i1 ifs0 ifs1 scope pos) d (.ref it) acc Y.env) R s := by
  refine loopBy hT (fun n s' => ∃ i H', Inv Y pins σ0 H' s' ∧ tn i s'.heap ∧ (∀ b ∈ fp, H' b = none) ∧ W i n H') ?_ m0 ⟨0, H, I, st, nf, w0⟩
  rintro n s1 ⟨i, H1, J1, st1, nf1, w1⟩
  rcases turn i n H1 w1 with ⟨stop, qd⟩ | ⟨go, Nx, nxt, step⟩
  · exact thnF (T.done Y rfl rfl rfl hc i pins s1 σ0 H1 (fun _ _ => False) J1 (stat J1 nf1) st1 stop) fun r s2 ⟨e1, J2⟩ => .inl ⟨e1, fin H1 s2 J2 qd⟩
  · refine thnF (T.item Y rfl rfl rfl hc i pins s1 σ0 H1 (fun _ _ => False) J1 (stat J1 nf1) st1 go) fun r s2 ⟨u, e1, h2⟩ => .inr ⟨u, e1, ?_⟩
    refine thnF h2 fun _ s3 ⟨x, H3, J3, r3, y3, st3, nf3⟩ => ?_
    have J3p := J3.pinned (stat J3 nf3) (T.obj _ _ st3)
    have back : ∀ (s' : Shared) (H' : Hp) (σ' : L2.St), Inv Y (pins ++ pinsAt fp s3.heap) σ' H' s' → Wk σ0 σ' → Nx H' → ∃ m, m < n ∧ ∃ i H', Inv Y pins σ0 H' s' ∧ tn i s'.heap ∧ (∀ b ∈ fp, H' b = none) ∧ W i m H' := fun s' H' σ' J' k nx => by
      obtain ⟨m', lt, w'⟩ := nxt H' nx
      have held : ∀ b ∈ fp, ∀ o, s3.heap.get? b = some o → s'.heap.get? b = some o ∧ H' b = none := fun b hb o e => by
        obtain ⟨z1, z2, _⟩ := J'.pin (b, o) (List.mem_append_right _ (List.mem_append_right _ (mem_pinsAt hb e)))
        exact ⟨z1, z2⟩
      refine ⟨m', lt, i + 1, H', J'.unpinned.weak k.1 k.2, T.keep _ _ _ st3 fun b hb o e => (held b hb o e).1, fun b hb => ?_, w'⟩
      obtain ⟨o, e, _⟩ := T.obj _ _ st3 b hb
      exact (held b hb o e).2
    have pgr := pg.run _ s3 σ0 H3 x u _ J3p r3 (step x H3 y3)
    rw [hx] at pgr
    refine thnF pgr fun _ s4 ⟨σ4, H4, J4, w4, q4⟩ => ?_
    have ptr := pt.run _ s4 σ4 H4 _ J4 q4
    rw [hx] at ptr
    refine thnF ptr fun b s5 ⟨H5, J5, q5⟩ => ?_
    cases b with
    | true =>
      rw [if_pos rfl] at q5 ⊢
      exact em _ σ4 H5 s5 Nx _ J5 w4 q5 fun s' H' σ' J' k nx => back s' H' σ' J' k nx
    | false =>
      rw [if_neg Bool.false_ne_true] at q5 ⊢
      exact back s5 H5 σ4 J5 (Wk.of w4) q5
end
/-! ### the set as a tracked thing -/
def txO (P : Program) (w : World) (a : Addr) (L : List Str) : HO := .ext fun h => TxS P w h a L
section
variable {X : Cx}
theorem txO_new {P : Program} {w : World} {H : Hp} {h : Heap} {a : Addr} {L : List Str} (R : TxS P w h a L) : ObjOk P w H h a (txO P w a L) := by
  obtain ⟨o, q, _⟩ := R.type
  exact ⟨R, ⟨o, q⟩, fun _ _ z k => TxS.keep z k⟩
theorem txO_get {pins : List (Addr × Obj)} {σ : L2.St} {H : Hp} {s : Shared} {a : Addr} {L : List Str} (I : Inv X pins σ H s) (h : H a = some (txO X.prog X.w a L)) : TxS X.prog X.w s.heap a L := (I.hok a _ h).1
theorem txO_add {pins : List (Addr × Obj)} {σ : L2.St} {H : Hp} {s : Shared} {E : Value → Shared → Prop} {a : Addr} {L : List Str} {k : Str} {u : Tok} {Q : Value → Shared → Prop} (I : Inv X pins σ H s) (h : H a = some (txO X.prog X.w a L)) (room : L.length + 1 < scanBound)
    (hQ : ∀ s', Inv X pins σ (upd H a (txO X.prog X.w a (stp L k))) s' → Q .none s') : wpAny (model X.prog X.w) X.A (call (.builtin "set.add") [.ref a, .str k u]) Q E s := by
  refine TxS.add (txO_get I h) room fun h' sb new => hQ { s with heap := h', toks := s.toks + 1 } ?_
  obtain ⟨o, q, _⟩ := new.type
  exact I.write (e := a) (t' := s.toks + 1) (by rw [h]; trivial) (.inl rfl) (fun b v nb hv => (sb.2 b nb).trans hv) ⟨o, q⟩ (txO_new new)
end
end DL

namespace DL
open PySem PySem.Spec PyProof.Rows L2
section
variable {P : Program} {w : World} {A : Around} {R : Result → Shared → Prop} {s : Shared} {elt t0 i0 t1 i1 : Expr} {ifs0 ifs1 : List Expr} {scope : Scope} {pos : Pos} {it acc : Value} {env : PySem.Env}
theorem begin_in (h0 : codeAny (model P w) A (.compLoop (scE elt t0 i0 t1 i1 ifs0 ifs1 scope pos) 1 it acc env) R s)
    (h : ∀ E, wpAny (model P w) A (pyIter it) (fun it' s' => codeAny (model P w) A (.compLoop (scE elt t0 i0 t1 i1 ifs0 ifs1 scope pos) 1 it' acc env) R s') E s) :
    codeAny (model P w) A (.compStart (scE elt t0 i0 t1 i1 ifs0 ifs1 scope pos) 1 it acc env) R s := by
  refine codeAny_of_tree ?_
  show wpAny _ _ ((compStart (scE elt t0 i0 t1 i1 ifs0 ifs1 scope pos) 1 it acc env).onRaise fun x => do noteFrame x env; standAt theWindowsPlace) _ _ s
  refine wpAny_notedAt ?_
  unfold compStart
  refine (show wpAny _ _ (ask >>= _) _ _ s from wpAny_bind (wpAny_askSetting (wpAny_ite ?_)))
  split
  · first
      | exact wpAny_pure ⟨rfl, h0⟩
      | exact wpAny_bind (wpAny_pure (wpAny_pure ⟨rfl, h0⟩))
  · refine wpAny_bind (wpAny_rule ?_)
    show wpAny _ _ (standAt i1.pos >>= _) _ _ s
    exact wpAny_bind (wpAny_standAt (wpAny_bind (wpAny_mono (h _) (fun _ _ q => wpAny_pure ⟨rfl, q⟩) fun _ _ z => z)))
theorem goes_in {N : Shared → Prop} (hs : ∀ x, foldedSetIterable i1 env x = pure x)
    (h : wpAny (model P w) A (eval i1 env) (fun x s1 => wpAny (model P w) A (pyIter x) (fun it1 s2 => codeAny (model P w) A (.compStart (scE elt t0 i0 t1 i1 ifs0 ifs1 scope pos) 1 it1 acc env) (fun r s' => ∃ f, r = .ok f ∧ N s') s2) (fun _ _ => False) s1) (fun _ _ => False) s) :
    wpAny (model P w) A (goesIn (scE elt t0 i0 t1 i1 ifs0 ifs1 scope pos) i1 acc env) (fun _ s' => N s') (fun _ _ => False) s := by
  unfold goesIn
  refine wpAny_bind (thnF h fun x s1 h1 => wpAny_bind (wpAny_standAt (wpAny_bind (wpAny_of_eq (hs x) (wpAny_bind (wpAny_holding (thnF h1 fun it1 s2 h2 => ?_)))))))
  refine wpAny_bind (wpAny_runOwn ?_)
  rw [Around.mark_none]
  refine codeAny_mono h2 fun r s' hr => ?_
  obtain ⟨f, rfl, n⟩ := hr
  first
    | exact wpAny_pure n
    | exact wpAny_bind (wpAny_pure (wpAny_pure n))
end
section
variable {X : Cx}
/-- the two loops, D the new set: its members are told at the end -/
def tSc2 (P : Program) (w : World) (wi : TI) (g : TG) (tt : TT) (wi1 : TI) (g1 : TG) (tt1 : TT) (te : TE) (vs vs1 : List Nat) (σ : L2.St) (H : Hp) (Q : Addr → List Str → Hp → Prop) : Prop := wi σ H fun J H1 => ∀ D, H1 D = none → ∃ W : Nat → Nat → Hp → Prop, (∃ m, W 0 m (upd H1 D (txO P w D []))) ∧ ∀ i m H, W i m H →
  (J.stop i H ∧ ∃ L, H D = some (txO P w D L) ∧ Q D L H) ∨ (J.go i H ∧ ∃ Nx : Hp → Prop, (∀ H', Nx H' → ∃ m', m' < m ∧ W (i + 1) m' H') ∧ ∀ x H', J.yld i H x H' → g x (wipe σ vs) H' fun σ2 H2 => wipe σ2 vs = wipe σ vs ∧ tt σ2 H2 fun b H3 => if b = true then
    (wi1 σ2 H3 fun J1 H4 => ∃ W1 : Nat → Nat → Hp → Prop, (∃ m, W1 0 m H4) ∧ ∀ j k H, W1 j k H → (J1.stop j H ∧ Nx H) ∨ (J1.go j H ∧ ∃ Nx1 : Hp → Prop, (∀ H', Nx1 H' → ∃ k', k' < k ∧ W1 (j + 1) k' H') ∧ ∀ x H', J1.yld j H x H' →
      g1 x (wipe σ2 vs1) H' fun σ3 H5 => wipe σ3 vs1 = wipe σ2 vs1 ∧ tt1 σ3 H5 fun b H6 => if b = true then (te σ3 H6 fun y H7 => ∃ k L, y = V.str k ∧ H7 D = some (txO P w D L) ∧ L.length + 1 < scanBound ∧ Nx1 (upd H7 D (txO P w D (stp L k)))) else Nx1 H6))
    else Nx H3)
theorem sc2_at {pins : List (Addr × Obj)} {s : Shared} {σ : L2.St} {H : Hp} {Qd : Addr → List Str → Hp → Prop} {elt tg iter tg1 iter1 : Expr} {ifs ifs1 : List Expr} {scope : Scope} {own : List (Str × Nat)} {vs1 : List Nat} {pos : Pos} {wi wi1 : TI} {g g1 : TG} {tt tt1 : TT} {te : TE}
    (hc : X.calm = true) (hN : X.N.Nodup) (I : Inv X pins σ H s) (hi : PI X tg iter wi) (ok : BlkOk X.N X.env.scope scope own) (hv : ∀ i ∈ vs1, i ∈ own.map (·.2))
    (blk : ∀ (s : Shared) (H : Hp) (C : Addr) (cl : List (Str × Addr)) (fp : List Addr), PG (X.blk s H scope (compEnvC scope cl C X.env) fp) tg g ∧ PTs (X.blk s H scope (compEnvC scope cl C X.env) fp) ifs tt ∧ PI (X.blk s H scope (compEnvC scope cl C X.env) fp) tg1 iter1 wi1 ∧
      PG (X.blk s H scope (compEnvC scope cl C X.env) fp) tg1 g1 ∧ PTs (X.blk s H scope (compEnvC scope cl C X.env) fp) ifs1 tt1 ∧ PE (X.blk s H scope (compEnvC scope cl C X.env) fp) elt te)
    (hs : ∀ x, foldedSetIterable iter X.env x = pure x) (hs1 : ∀ env x, foldedSetIterable iter1 env x = pure x) (h : tSc2 X.prog X.w wi g tt wi1 g1 tt1 te (own.map (·.2)) vs1 σ H Qd) :
    wpAny (model X.prog X.w) X.A (eval (scE elt tg iter tg1 iter1 ifs ifs1 scope pos) X.env) (fun v s' => ∃ D L H', v = .ref D ∧ Inv X pins σ H' s' ∧ H' D = some (txO X.prog X.w D L) ∧ Qd D L H') X.xe s := by
  rw [PpSet.eval_SetComp]
  have outer : ∀ y ∈ scope.names, y.2 = .free → ∃ c, X.env.cells.lookup y.1 = some c := fun y hy e => I.ok.has _ (ok.free y hy e)
  refine wpAny_comprehension_free (use := none) rfl hs (closure_ok outer) ok.kind (fun y hy e => (ok.uniq y hy).trans (congrArg some e)) (thn (hi.run pins s σ H _ I h) fun xv sA hA => thn hA fun itv sB hB => ?_)
  obtain ⟨it, fp, tn, J, HB, rfl, JB, T, stB, fB, q⟩ := hB
  refine PpSet.newSet_ok (newEnv_comp ?_)
  have nD : HB sB.heap.objs.size = none := JB.hok.fresh (Nat.le_refl _)
  obtain ⟨W, ⟨m0, w0⟩, turn⟩ := q _ nD
  revert w0 turn
  generalize eD : sB.heap.objs.size = D at nD ⊢
  intro turn w0
  let hC : Heap := sB.heap.push { cls := .type "set", dict := none, data := .set #[] 0 (.fresh 0 0 (!X.w.params.followText "set-order")) }
  let HC : Hp := upd HB D (txO X.prog X.w D [])
  let sC : Shared := { sB with heap := hC }
  have grow : ∀ b o, sB.heap.get? b = some o → hC.get? b = some o := fun b o e => Heap.get?_push_of_some _ e
  have JC : Inv X pins σ HC sC := JB.laid (t' := sB.toks) grow (Nat.le_of_eq eD) (txO_new (by rw [← eD]; exact txS_new))
  have szC : hC.objs.size = sB.heap.objs.size + 1 := Heap.size_push ..
  have fC : ∀ b ∈ fp, FpOk X pins HC b ∧ b < sC.heap.objs.size := fun b hb => by
    obtain ⟨o, e, _⟩ := T.obj _ _ stB b hb
    have lt := Heap.lt_size e
    have nb : b ≠ D := by rw [← eD]; exact Nat.ne_of_lt lt
    exact ⟨⟨(upd_ne nb).trans (fB b hb).1, (fB b hb).2⟩, by show b < hC.objs.size; rw [szC]; exact Nat.lt_succ_of_lt lt⟩
  have stC : tn 0 hC := T.keep _ _ _ stB fun b _ o e => grow b o e
  have JD := block_start JC ok hN fC
  obtain ⟨pg, pt, pi1, pg1, pt1, pe⟩ := blk sC HC hC.objs.size (cellsFrom (hC.objs.size + 1) scope.names (cloFrom X.env.cells scope.names [])) fp
  have stD : tn 0 (pushCells (hC.push { cls := .type "dict", data := .dict #[] }) scope.names) := T.keep _ _ _ stC fun b _ o e => pushCells_keeps _ _ _ _ (Heap.get?_push_of_some _ e)
  have nfp : ∀ b ∈ fp, HC b = none := fun b hb => (fC b hb).1.1
  show codeAny _ _ (.compStart (scE elt tg iter tg1 iter1 ifs ifs1 scope pos) 0 (.ref it) (.ref D) (compEnvC scope (cellsFrom (hC.objs.size + 1) scope.names (cloFrom X.env.cells scope.names [])) hC.objs.size X.env)) (compPost (model X.prog X.w) X.A X.xe none _ (.ref D) hC.objs.size) { sC with heap := pushCells (hC.push { cls := .type "dict", data := .dict #[] }) scope.names }
  revert JD pg pt pi1 pg1 pt1 pe
  generalize eE : compEnvC scope (cellsFrom (hC.objs.size + 1) scope.names (cloFrom X.env.cells scope.names [])) hC.objs.size X.env = env
  intro JD pg pt pi1 pg1 pt1 pe
  have eL : env.locals = hC.objs.size := by subst eE; rfl
  let Y : Cx := X.blk sC HC scope env fp
  have stat : ∀ {σ' : L2.St} {H' : Hp} {s' : Shared}, Inv Y [] σ' H' s' → (∀ b ∈ fp, H' b = none) → ∀ b ∈ fp, FpOk Y [] H' b := fun {σ' H' s'} J' hn b hb =>
    ⟨hn b hb, (J'.ok.exf b hb).1, J'.ok.exfs b hb, .inl hb, fun x c e => (J'.ok.exf b hb).2 x c e, fun p hp => by
      have hp : p ∈ ([] : List (Addr × Obj)) ++ [] := hp
      simp at hp⟩
  have whole : codeAny (model Y.prog Y.w) Y.A (.compLoop (scE elt tg iter tg1 iter1 ifs ifs1 scope pos) 0 (.ref it) (.ref D) Y.env)
      (compPost (model X.prog X.w) X.A X.xe none (fun v s' => ∃ D L H', v = .ref D ∧ Inv X pins σ H' s' ∧ H' D = some (txO X.prog X.w D L) ∧ Qd D L H') (.ref D) hC.objs.size) { sC with heap := pushCells (hC.push { cls := .type "dict", data := .dict #[] }) scope.names } := by
    refine walkBy (Y := Y) (pins := []) (σ0 := wipe σ (own.map (·.2))) (vs := own.map (·.2)) rfl hc T pg pt turn_out stat W (fun H => ∃ L, H D = some (txO X.prog X.w D L) ∧ Qd D L H) _ turn ?_ ?_ m0 _ HC JD stD nfp w0
    · intro pl σ2 H3 s3 Nx N J3 w2 em fin
      refine goes_in (hs1 _) ?_
      have r1 := pi1.run _ s3 σ2 H3 _ J3 em
      refine thnF r1 fun xv s4 h4 => thnF h4 fun itv s5 h5 => ?_
      obtain ⟨it1, fp1, tn1, J1, H5, rfl, J5, T1, st5, f5, W1, ⟨m1, w1⟩, turn1⟩ := h5
      have k2 : Wk (wipe σ (own.map (·.2))) (wipe σ2 vs1) := ⟨by
        have z := congrArg List.length w2
        rw [wipe_length] at z
        rw [wipe_length σ2, ← z], fun j v e => by
        rw [← w2] at e
        obtain ⟨e1, e2⟩ := wipe_some e
        rw [wipe_out fun z => e2 (hv j z)]
        exact e1⟩
      have inner : codeAny (model Y.prog Y.w) Y.A (.compLoop (scE elt tg iter tg1 iter1 ifs ifs1 scope pos) 1 (.ref it1) (.ref D) Y.env) (fun r s' => ∃ f, r = .ok f ∧ N s') s5 := by
        refine walkBy (Y := Y) (pins := [] ++ pl) (σ0 := wipe σ2 vs1) (vs := vs1) rfl hc T1 pg1 pt1 turn_in (fun {σ' H' s'} J' hn b hb => ⟨hn b hb, (f5 b hb).2⟩) W1 Nx _ turn1 ?_ ?_ m1 s5 H5 (J5.weak (wipe_length _ _) fun j v e => (wipe_some e).1) st5 (fun b hb => (f5 b hb).1) w1
        · intro pl1 σ3 H6 s6 Nx1 N1 J6 w3 em1 fin1
          unfold laysText
          refine wpAny_bind (thnF (pe.run _ s6 σ3 H6 _ J6 em1) fun v s7 ⟨y, H7, J7, r7, k, L, ey, hD, room, nx⟩ => ?_)
          subst ey
          obtain ⟨u, rfl⟩ := r7
          refine wpAny_bind (wpAny_standAt (wpAny_bind (txO_add (X := Y) J7 hD room fun s8 J8 => ?_)))
          exact wpAny_pure (fin1 s8 _ σ3 J8 (Wk.of w3) nx)
        · intro H6 s6 J6 nx
          exact ⟨_, rfl, fin s6 H6 _ J6 k2 nx⟩
      exact begin_in inner fun E => T1.self Y.A 0 _ _ _ st5 inner
    · rintro H3 s3 J3 ⟨L, hD, qd⟩
      have back : Inv X pins σ H3 s3 := JC.call' (ch := fp) J3.os J3.base J3.hok J3.bare fun b hb => ⟨(fC b hb).1.2.2.2.1, (fC b hb).1.2.1, (fC b hb).1.2.2.2.2.1, (fC b hb).1.2.2.2.2.2⟩
      have free : H3 hC.objs.size = none := eL ▸ (show H3 env.locals = none from J3.free)
      obtain ⟨m, ns, _⟩ := J3.loc
      have ns : s3.heap.Ns hC.objs.size m := eL ▸ (show s3.heap.Ns env.locals m from ns)
      obtain ⟨f0, f1, f2, f3, f4, f5⟩ := JC.fpOk (Nat.le_refl _) free
      exact ⟨m, ns, fun h' sb => ⟨D, L, H3, rfl, back.turned (t' := s3.toks) (fun b o nb e => (sb.2 b nb).trans e) f0 f1 f3 f4 f5, hD, qd⟩⟩
  exact PpSet.codeAny_compStart_set whole (T.self X.A 0 _ _ _ stD whole)
end
end DL

namespace DL
open PySem PySem.Spec PyProof.Rows L2
theorem StOk.hideX {C : CC} {σ : L2.St} {ρ : Rho} {F H : Hp} {z : Zs} {p : Addr} (o : HO) (S : StOk C σ ρ F H z) (h : H p = none) : StOk (C.hide p) σ ρ F (upd H p o) z := by
  have T := S.newH (o := o) h
  refine ⟨T.sub, T.f0, T.h0, T.nw, T.len, fun i v s e1 e2 => ?_, T.apart, T.pz, fun b hb => ?_, T.cs⟩
  · have q := S.env i v s e1 e2
    cases s with
    | own ds =>
      cases v with
      | some v =>
        obtain ⟨a, xs, rfl, ha, r⟩ := q
        have ne : a ≠ p := fun e => by rw [e, h] at ha; cases ha
        exact ⟨a, xs, rfl, (upd_ne ne).trans ha, r.1, r.2.1, r.2.2.1, r.2.2.2.1, fun m => (List.mem_cons.mp m).elim ne r.2.2.2.2⟩
      | none => exact q.elim
    | fr d =>
      cases v with
      | some v => exact q
      | none => exact q.elim
    | no => cases v <;> trivial
  · rcases List.mem_cons.mp hb with e | hb
    · rw [e]
      exact ⟨S.free h, ⟨o, upd_same⟩, S.npa h⟩
    · exact T.hd b hb
def lcS (vs : List Nat) (tg : Tg) (mt : E Bool) (me : E D) : List D → List Str → E (List Str)
  | [], acc => ep acc
  | d :: ds, acc => fun ρ Q X z => tg d ρ fun ρ1 => mt ρ1 (fun t ρ2 z2 => if t = true then me ρ2 (fun y ρ3 z3 => ∃ k, y = D.str k ∧ acc.length < 4000 ∧ lcS vs tg mt me ds (acc ++ [k]) (wipeR ρ3 vs) Q X z3) (fun _ _ _ => False) z2 else lcS vs tg mt me ds acc (wipeR ρ2 vs) Q X z2) (fun _ _ _ => False) z
def lcO (vs : List Nat) (tg : Tg) (mt : E Bool) (mi1 : E (List D)) (vs1 : List Nat) (tg1 : Tg) (mt1 : E Bool) (me : E D) : List D → List Str → E (List Str)
  | [], acc => ep acc
  | d :: ds, acc => fun ρ Q X z => tg d ρ fun ρ1 => mt ρ1 (fun t ρ2 z2 => if t = true then
      mi1 ρ2 (fun ds1 ρ3 z3 => lcS vs1 tg1 mt1 me ds1 acc (wipeR ρ3 vs1) (fun acc2 ρ4 z4 => lcO vs tg mt mi1 vs1 tg1 mt1 me ds acc2 (wipeR ρ4 vs) Q X z4) (fun _ _ _ => False) z3) (fun _ _ _ => False) z2
      else lcO vs tg mt mi1 vs1 tg1 mt1 me ds acc (wipeR ρ2 vs) Q X z2) (fun _ _ _ => False) z
def eSc2 (vs : List Nat) (mi : E (List D)) (tg : Tg) (mt : E Bool) (vs1 : List Nat) (mi1 : E (List D)) (tg1 : Tg) (mt1 : E Bool) (me : E D) : E (List D) :=
  eb mi fun ds ρ Q X z => lcO vs tg mt mi1 vs1 tg1 mt1 me ds [] (wipeR ρ vs) (fun L ρ1 z1 => Q ((sorT (uniq L)).map D.str) ρ1 z1) X z
theorem uniq_snoc (L : List Str) (k : Str) : uniq (L ++ [k]) = stp (uniq L) k := by
  unfold uniq
  rw [List.foldl_append]
  rfl
section
variable {X : Cx} {C : CC} {W : WX} {elt tg iter tg1 iter1 : Expr} {ifs ifs1 : List Expr} {p pos p2 : Pos} {k : Nat} {scope : Scope} {own : List (Str × Nat)} {vs1 : List Nat} {mi mi1 : E (List D)} {g g1 : Tg} {is is1 : List Nat} {mt mt1 : E Bool} {me : E D}
theorem xo_sortSc2 (kx : Kx X C W k) (hg0 : Gl X "sorted") (hm0 : X.mg "sorted" = none) (hi : XI X C W tg iter mi) (ok : blkC X.N X.env.scope scope own = true)
    (blk : ∀ (s : Shared) (H : Hp) (Cc : Addr) (cl : List (Str × Addr)) (fp : List Addr) (D : Addr), Kx (Bk X scope s H Cc cl fp) (C.hide D) wN k → XG (Bk X scope s H Cc cl fp) (C.hide D) tg is g ∧ XTs (Bk X scope s H Cc cl fp) (C.hide D) wN ifs mt ∧
      XI (Bk X scope s H Cc cl fp) (C.hide D) wN tg1 iter1 mi1 ∧ XG (Bk X scope s H Cc cl fp) (C.hide D) tg1 is1 g1 ∧ XTs (Bk X scope s H Cc cl fp) (C.hide D) wN ifs1 mt1 ∧ XE (Bk X scope s H Cc cl fp) (C.hide D) wN elt me)
    (his : ∀ i ∈ is, i ∈ own.map (·.2)) (his1 : ∀ i ∈ is1, i ∈ vs1) (hv : ∀ i ∈ vs1, i ∈ own.map (·.2)) (hs : ∀ x, foldedSetIterable iter X.env x = pure x := by intro _; rfl) (hs1 : ∀ env x, foldedSetIterable iter1 env x = pure x := by intro _ _; rfl) :
    XO X C W (.Call (.Name "sorted" p) [scE elt tg iter tg1 iter1 ifs ifs1 scope pos] [] p2) (eSc2 (own.map fun x : Str × Nat => x.2) mi g mt vs1 mi1 g1 mt1 me) := by
  obtain ⟨wi, i1, i2⟩ := hi.ex
  let gU : TG := fun v σ H Q => ∀ s H2 Cc cl fp, ∃ t, PG (Bk X scope s H2 Cc cl fp) tg t ∧ t v σ H Q
  let tU : TT := fun σ H Q => ∀ s H2 Cc cl fp, ∃ t, PTs (Bk X scope s H2 Cc cl fp) ifs t ∧ t σ H Q
  let jU : TI := fun σ H Q => ∀ s H2 Cc cl fp, ∃ t, PI (Bk X scope s H2 Cc cl fp) tg1 iter1 t ∧ t σ H Q
  let gV : TG := fun v σ H Q => ∀ s H2 Cc cl fp, ∃ t, PG (Bk X scope s H2 Cc cl fp) tg1 t ∧ t v σ H Q
  let tV : TT := fun σ H Q => ∀ s H2 Cc cl fp, ∃ t, PTs (Bk X scope s H2 Cc cl fp) ifs1 t ∧ t σ H Q
  let eV : TE := fun σ H Q => ∀ s H2 Cc cl fp, ∃ t, PE (Bk X scope s H2 Cc cl fp) elt t ∧ t σ H Q
  have all : ∀ (s : Shared) (H : Hp) (Cc : Addr) (cl : List (Str × Addr)) (fp : List Addr), PG (Bk X scope s H Cc cl fp) tg gU ∧ PTs (Bk X scope s H Cc cl fp) ifs tU ∧ PI (Bk X scope s H Cc cl fp) tg1 iter1 jU ∧ PG (Bk X scope s H Cc cl fp) tg1 gV ∧ PTs (Bk X scope s H Cc cl fp) ifs1 tV ∧ PE (Bk X scope s H Cc cl fp) elt eV := fun s H Cc cl fp => by
    refine ⟨⟨fun pins s1 σ H1 v u Q I r h => ?_⟩, ⟨fun pins s1 σ H1 Q I h => ?_⟩, ⟨fun pins s1 σ H1 Q I h => ?_⟩, ⟨fun pins s1 σ H1 v u Q I r h => ?_⟩, ⟨fun pins s1 σ H1 Q I h => ?_⟩, ⟨fun pins s1 σ H1 Q I h => ?_⟩⟩
    · obtain ⟨t, a1, a2⟩ := h s H Cc cl fp
      exact a1.run pins s1 σ H1 v u Q I r a2
    · obtain ⟨t, a1, a2⟩ := h s H Cc cl fp
      exact a1.run pins s1 σ H1 Q I a2
    · obtain ⟨t, a1, a2⟩ := h s H Cc cl fp
      exact a1.run pins s1 σ H1 Q I a2
    · obtain ⟨t, a1, a2⟩ := h s H Cc cl fp
      exact a1.run pins s1 σ H1 v u Q I r a2
    · obtain ⟨t, a1, a2⟩ := h s H Cc cl fp
      exact a1.run pins s1 σ H1 Q I a2
    · obtain ⟨t, a1, a2⟩ := h s H Cc cl fp
      exact a1.run pins s1 σ H1 Q I a2
  have d1 : ∀ D, DenG (C.hide D) gU is g := fun D σ ρ F H z v d Qd Q S r hm hq s H2 Cc cl fp => by
    obtain ⟨t, a1, a2⟩ := (blk s H2 Cc cl fp D (kx_blk kx)).1.ex
    exact ⟨t, a1, a2 σ ρ F H z v d Qd Q S r hm hq⟩
  have d2 : ∀ D, Den (C.hide D) wN tU mt kB := fun D σ ρ F H z Qd Xd Q S hm hq hx s H2 Cc cl fp => by
    obtain ⟨t, a1, a2⟩ := (blk s H2 Cc cl fp D (kx_blk kx)).2.1.ex
    exact ⟨t, a1, a2 σ ρ F H z Qd Xd Q S hm hq hx⟩
  have d3 : ∀ D, DenI (C.hide D) wN jU mi1 := fun D σ ρ F H z Qd Xd Q S hm hq hx s H2 Cc cl fp => by
    obtain ⟨t, a1, a2⟩ := (blk s H2 Cc cl fp D (kx_blk kx)).2.2.1.ex
    exact ⟨t, a1, a2 σ ρ F H z Qd Xd Q S hm hq hx⟩
  have d4 : ∀ D, DenG (C.hide D) gV is1 g1 := fun D σ ρ F H z v d Qd Q S r hm hq s H2 Cc cl fp => by
    obtain ⟨t, a1, a2⟩ := (blk s H2 Cc cl fp D (kx_blk kx)).2.2.2.1.ex
    exact ⟨t, a1, a2 σ ρ F H z v d Qd Q S r hm hq⟩
  have d5 : ∀ D, Den (C.hide D) wN tV mt1 kB := fun D σ ρ F H z Qd Xd Q S hm hq hx s H2 Cc cl fp => by
    obtain ⟨t, a1, a2⟩ := (blk s H2 Cc cl fp D (kx_blk kx)).2.2.2.2.1.ex
    exact ⟨t, a1, a2 σ ρ F H z Qd Xd Q S hm hq hx⟩
  have d6 : ∀ D, Den (C.hide D) wN eV me (kR C) := fun D σ ρ F H z Qd Xd Q S hm hq hx s H2 Cc cl fp => by
    obtain ⟨t, a1, a2⟩ := (blk s H2 Cc cl fp D (kx_blk kx)).2.2.2.2.2.ex
    exact ⟨t, a1, a2 σ ρ F H z Qd Xd Q S hm hq hx⟩
  refine ⟨fun σ H Q => tSc2 X.prog X.w wi gU tU jU gV tV eV (own.map fun x : Str × Nat => x.2) vs1 σ H fun D L H' => ∀ r, H' r = none → Q (.ref r) (upd H' r (.lst ((sorT L).map V.str))), ⟨fun pins s σ H Q I h => ?_⟩, ?_⟩
  · refine Call_ (ld_blt I hg0 hm0 boot_sorted (callWith_builtin1 (args_cons (thn (sc2_at (own := own) kx.calm kx.nd I i1 (blkOk_by ok) hv all hs hs1 h) fun v s1 h1 => args_nil ?_) rfl) rfl rfl))
    obtain ⟨D, L, H1, rfl, I1, hD, q⟩ := h1
    exact sorted_new kx.hu kx.calm I1 (txO_get I1 hD) q
  refine fun σ ρ F H z Qd Xd Q S hm hq hx => i2 σ ρ F H z _ Xd _ S hm (fun ds ρ1 z1 J F1 H1 q1 S1 ff1 k1 o1 it => ?_) hx
  intro D hD
  have h0D : C.H0 D = none := S1.h0None hD (S1.npa hD)
  have npD := S1.npa hD
  have oW : ∀ {vs : List Nat} {ρa : Rho}, Ole ρa ρ1 → Ole (wipeR ρa vs) ρ1 := fun {vs ρa} o i ys e => by
    rcases wipeR_some e with h | ⟨_, h⟩
    · cases h
    · exact o i ys h
  -- what holds between the turns
  let St : L2.St → List Nat → Rho → Hp → Hp → Zs → List Str → Prop := fun τ vs ρx F' H' z' acc => StOk (C.hide D) (wipe τ vs) (wipeR ρx vs) F' H' z' ∧ Same F1 F' ∧ Keep C.pa F1 F' H1 H' ∧ Ole (wipeR ρx vs) ρ1 ∧ H' D = some (txO X.prog X.w D (uniq acc))
  refine ⟨fun i m H' => m = ds.length - i ∧ i ≤ ds.length ∧ ∃ ρx F' z' acc, St σ (own.map fun x : Str × Nat => x.2) ρx F' H' z' acc ∧
      lcO (own.map fun x : Str × Nat => x.2) g mt mi1 vs1 g1 mt1 me (ds.drop i) acc (wipeR ρx (own.map fun x : Str × Nat => x.2)) (fun L ρ2 z2 => Qd ((sorT (uniq L)).map DL.D.str) ρ2 z2) Xd z',
    ⟨ds.length, by simp, Nat.zero_le _, ρ1, F1, z1, [], ⟨(S1.hideX _ hD).wipe, Same.refl _, Keep.new hD, oW Ole.refl, upd_same⟩, q1⟩, ?_⟩
  rintro i m H2 ⟨rfl, hi, ρx, F2, z2, acc, ⟨S2, ff2, k2, o2, hx2⟩, q2⟩
  cases hd : ds[i]? with
  | none =>
    have hl : ds.length ≤ i := List.getElem?_eq_none_iff.mp hd
    rw [List.drop_eq_nil_of_le hl] at q2
    refine .inl ⟨it.stp (C.hide D) _ _ F2 H2 z2 rfl rfl rfl S2 ff2 i hd, uniq acc, hx2, fun r hr => ?_⟩
    have S3 := S2.leave
    have hH : H r = none := by
      cases q : H r with
      | none => rfl
      | some o => exact absurd hr ((k1.trans k2).dm r (by rw [q]; simp))
    exact hq _ _ z2 _ F2 _ q2 (S3.newH hr) (ff1.trans ff2) ((k1.trans k2).updH hH) (o2.trans o1) ⟨r, _, rfl, upd_same, S3.free hr, hH, S3.npa hr, RpL.txt _⟩
  | some d =>
    obtain ⟨hlt, hget⟩ := List.getElem?_eq_some_iff.mp hd
    rw [List.drop_eq_getElem_cons hlt, hget] at q2
    obtain ⟨go, yl⟩ := it.go (C.hide D) _ _ F2 H2 z2 rfl rfl rfl S2 ff2 i d hd
    refine .inr ⟨go, fun H' => ∃ ρx F' z' acc, St σ (own.map fun x : Str × Nat => x.2) ρx F' H' z' acc ∧ lcO (own.map fun x : Str × Nat => x.2) g mt mi1 vs1 g1 mt1 me (ds.drop (i + 1)) acc (wipeR ρx (own.map fun x : Str × Nat => x.2)) (fun L ρ2 z2 => Qd ((sorT (uniq L)).map DL.D.str) ρ2 z2) Xd z',
      fun H' w => ⟨_, by omega, rfl, hlt, w⟩, fun x H3 y => ?_⟩
    obtain ⟨F3, ff3, S3, k3, r3⟩ := yl x H3 y
    refine d1 D _ _ F3 H3 z2 x d _ _ S3 r3 q2 (fun σ4 ρ4 q4 S4 u4 o4 => ?_)
    have ew : wipe σ4 (own.map fun x : Str × Nat => x.2) = wipe σ (own.map fun x : Str × Nat => x.2) := wipe_eq his u4.1 u4.2
    refine ⟨ew, ?_⟩
    refine d2 D σ4 ρ4 F3 H3 z2 _ (fun _ _ _ => False) _ S4 q4 (fun bb ρ5 z5 b F5 H5 q5 S5 ff5 k5 o5 r5 => ?_) (fun e ρ' z' cls dd F' H' q => q.elim)
    obtain rfl : b = bb := r5
    have hx5 : H5 D = some (txO X.prog X.w D (uniq acc)) := k5.ke D _ (k3.ke D _ hx2 npD (nog (S2.hd D List.mem_cons_self).1)) npD (nog (S4.hd D List.mem_cons_self).1)
    have f5 := (ff2.trans ff3).trans ff5
    have kk5 := (k2.trans k3).trans k5
    have oo5 := (o5.trans o4).trans o2
    cases b with
    | false =>
      rw [if_neg Bool.false_ne_true] at q5 ⊢
      exact ⟨ρ5, F5, z5, acc, ⟨ew ▸ S5.wipe, f5, kk5, oW oo5, hx5⟩, q5⟩
    | true =>
      rw [if_pos rfl] at q5 ⊢
      refine d3 D σ4 ρ5 F5 H5 z5 _ (fun _ _ _ => False) _ S5 q5 (fun ds1 ρ6 z6 J1 F6 H6 q6 S6 ff6 k6 o6 it1 => ?_) (fun e ρ' z' cls dd F' H' q => q.elim)
      have hx6 : H6 D = some (txO X.prog X.w D (uniq acc)) := k6.ke D _ hx5 npD (nog (S5.hd D List.mem_cons_self).1)
      -- the loop of the second clause
      refine ⟨fun j m H' => m = ds1.length - j ∧ j ≤ ds1.length ∧ ∃ ρx F' z' acc, (St σ4 vs1 ρx F' H' z' acc ∧ Same F6 F') ∧
          lcS vs1 g1 mt1 me (ds1.drop j) acc (wipeR ρx vs1) (fun acc2 ρ7 z7 => lcO (own.map fun x : Str × Nat => x.2) g mt mi1 vs1 g1 mt1 me (ds.drop (i + 1)) acc2 (wipeR ρ7 (own.map fun x : Str × Nat => x.2)) (fun L ρ2 z2 => Qd ((sorT (uniq L)).map DL.D.str) ρ2 z2) Xd z7) (fun _ _ _ => False) z',
        ⟨ds1.length, by simp, Nat.zero_le _, ρ6, F6, z6, acc, ⟨⟨S6.wipe, f5.trans ff6, kk5.trans k6, oW (o6.trans oo5), hx6⟩, Same.refl _⟩, q6⟩, ?_⟩
      rintro j m H7 ⟨rfl, hj, ρy, F7, z7, acc7, ⟨⟨S7, ff7, k7, o7, hx7⟩, g7⟩, q7⟩
      cases hd1 : ds1[j]? with
      | none =>
        have hl1 : ds1.length ≤ j := List.getElem?_eq_none_iff.mp hd1
        rw [List.drop_eq_nil_of_le hl1] at q7
        refine .inl ⟨it1.stp (C.hide D) _ _ F7 H7 z7 rfl rfl rfl S7 g7 j hd1, wipeR ρy vs1, F7, z7, acc7, ⟨?_, ff7, k7, oW o7, hx7⟩, q7⟩
        have z := S7.wipe (vs := own.map (·.2))
        have ez : wipe (wipe σ4 vs1) (own.map fun x : Str × Nat => x.2) = wipe σ (own.map fun x : Str × Nat => x.2) := by
          rw [← ew]
          apply List.ext_getElem?
          intro i
          by_cases hi : i ∈ own.map fun x : Str × Nat => x.2
          · rw [wipe_in hi, wipe_in hi, wipe_length]
          · rw [wipe_out hi, wipe_out hi, wipe_out fun z => hi (hv i z)]
        rw [ez] at z
        exact z
      | some d1' =>
        obtain ⟨hlt1, hget1⟩ := List.getElem?_eq_some_iff.mp hd1
        rw [List.drop_eq_getElem_cons hlt1, hget1] at q7
        obtain ⟨go1, yl1⟩ := it1.go (C.hide D) _ _ F7 H7 z7 rfl rfl rfl S7 g7 j d1' hd1
        refine .inr ⟨go1, fun H' => ∃ ρx F' z' acc, (St σ4 vs1 ρx F' H' z' acc ∧ Same F6 F') ∧
            lcS vs1 g1 mt1 me (ds1.drop (j + 1)) acc (wipeR ρx vs1) (fun acc2 ρ7 z7 => lcO (own.map fun x : Str × Nat => x.2) g mt mi1 vs1 g1 mt1 me (ds.drop (i + 1)) acc2 (wipeR ρ7 (own.map fun x : Str × Nat => x.2)) (fun L ρ2 z2 => Qd ((sorT (uniq L)).map DL.D.str) ρ2 z2) Xd z7) (fun _ _ _ => False) z',
          fun H' w => ⟨_, by omega, rfl, hlt1, w⟩, fun x1 H8 y1 => ?_⟩
        obtain ⟨F8, ff8, S8, k8, r8⟩ := yl1 x1 H8 y1
        refine d4 D _ _ F8 H8 z7 x1 d1' _ _ S8 r8 q7 (fun σ9 ρ9 q9 S9 u9 o9 => ?_)
        have ew9 : wipe σ9 vs1 = wipe σ4 vs1 := wipe_eq his1 u9.1 u9.2
        refine ⟨ew9, ?_⟩
        refine d5 D σ9 ρ9 F8 H8 z7 _ (fun _ _ _ => False) _ S9 q9 (fun bb ρa za b Fa Ha qa Sa ffa ka oa ra => ?_) (fun e ρ' z' cls dd F' H' q => q.elim)
        obtain rfl : b = bb := ra
        have hxa : Ha D = some (txO X.prog X.w D (uniq acc7)) := ka.ke D _ (k8.ke D _ hx7 npD (nog (S7.hd D List.mem_cons_self).1)) npD (nog (S9.hd D List.mem_cons_self).1)
        have fa := (ff7.trans ff8).trans ffa
        have ga := (g7.trans ff8).trans ffa
        have kka := (k7.trans k8).trans ka
        have ooa := (oa.trans o9).trans o7
        cases b with
        | false =>
          rw [if_neg Bool.false_ne_true] at qa ⊢
          exact ⟨ρa, Fa, za, acc7, ⟨⟨ew9 ▸ Sa.wipe, fa, kka, oW ooa, hxa⟩, ga⟩, qa⟩
        | true =>
          rw [if_pos rfl] at qa ⊢
          refine d6 D σ9 ρa Fa Ha za _ (fun _ _ _ => False) _ Sa qa (fun yd ρb zb yv Fb Hb qb Sb ffb kb ob rb => ?_) (fun e ρ' z' cls dd F' H' q => q.elim)
          obtain ⟨kk, rfl, room, qb⟩ := qb
          have hxb : Hb D = some (txO X.prog X.w D (uniq acc7)) := kb.ke D _ hxa npD (nog (Sa.hd D List.mem_cons_self).1)
          have ev : yv = V.str kk := by cases rb; rfl
          subst ev
          have ul := uniq_le acc7
          refine ⟨kk, uniq acc7, rfl, hxb, by unfold scanBound; omega, ρb, Fb, zb, acc7 ++ [kk], ⟨⟨?_, fa.trans ffb, (kka.trans kb).updH hD, oW (ob.trans ooa), by rw [uniq_snoc]; exact upd_same⟩, ga.trans ffb⟩, qb⟩
          rw [← ew9]
          exact (Sb.hidUpd List.mem_cons_self h0D).wipe
end
end DL

namespace DL
open PySem PySem.Spec PyProof.Rows L2

/-! ## str(a number or a text), int(a text), text.split(..) -/
section
variable {X : Cx} {C : CC} {W : WX} {a b : Expr} {ma : E D} {p p1 p2 pos : Pos} {k : Nat}
def rStrX : List V → Hp → VK → Prop := fun xs H Q => (∃ i, xs = [V.int i] ∧ i.natAbs.log2 < 1920 ∧ Q (.str (toString i)) H) ∨ ∃ s, xs = [V.str s] ∧ Q (.str s) H
theorem call_strX : CallR X (.type "str") rStrX := by
  intro pins s σ H xs us Q I r h
  rcases h with h | h
  · exact call_str_int pins s σ H xs us Q I r h
  · exact SkE.call_str_str pins s σ H xs us Q I r h
def dStr : P1
  | .int i, Q => i.natAbs.log2 < 1920 ∧ Q (.str (toString i))
  | .str s, Q => Q (.str s)
  | _, _ => False
theorem xe_strX (hg : Gl X "str") (hm : X.mg "str" = none) (ha : XP X C W a ma) (h1 : S1 X a := by rfl) : XE X C W (.Call (.Name "str" p) [a] [] pos) (eb ma fun d => eP (dStr d)) :=
  xe_t1 call_strX (op1_flat fun F H x dx Q Qd s rx hp hq => by
    unfold dStr at hp
    split at hp
    · obtain rfl := rx.int
      exact .inl ⟨_, rfl, hp.1, hq _ _ hp.2 (.str _)⟩
    · obtain rfl := rx.str
      exact .inr ⟨_, rfl, hq _ _ hp (.str _)⟩
    · exact False.elim hp) ha hg hm rfl (by decide) (by decide) h1
def dIntX : P1
  | .str s, Q => ∃ n, PySem.intText? s = some n ∧ s.length ≤ 640 ∧ Q (.int n)
  | _, _ => False
theorem xe_intX (hg : Gl X "int") (hm : X.mg "int" = none) (ha : XP X C W a ma) (h1 : S1 X a := by rfl) : XE X C W (.Call (.Name "int" p) [a] [] pos) (eb ma fun d => eP (dIntX d)) :=
  xe_t1 call_int_str (op1_flat fun F H x dx Q Qd s rx hp hq => by
    unfold dIntX at hp
    split at hp
    · obtain rfl := rx.str
      obtain ⟨n, h1, h2, h3⟩ := hp
      exact ⟨_, n, rfl, h1, h2, hq _ _ h3 (.int _)⟩
    · exact False.elim hp) ha hg hm rfl (by decide) (by decide) h1
def fSplit (sep : Str) : D → E (List D)
  | .str s => fun ρ Q _ z => ((sep.length == 0) = false ∧ s.length + 2 ≤ 16777216) ∧ Q ((Txt.split s sep).map D.str) ρ z
  | _ => eStuck
theorem xo_split {sep : Str} {j} (ha : XP X C W a ma) (hs : starEach [Expr.Constant (.str sep) j p2] X.env = [(false, eval (.Constant (.str sep) j p2) X.env)] := by rfl)
    (hbase : attributeBase a "split" X.env (eval a X.env) = eval a X.env := by rfl) (hline : (p1.endLine == pos.line) = true := by rfl) :
    XO X C W (.Call (.Attribute a "split" p1) [.Constant (.str sep) j p2] [] pos) (eb ma (fSplit sep)) := by
  obtain ⟨u, g1, g2⟩ := ha.ex
  refine ⟨_, pe_split g1 pe_str hs hbase hline, fun σ ρ F H z Qd Xd Q S hm hq hx => ?_⟩
  refine g2 σ ρ F H z _ Xd _ S hm (fun dy ρ2 z2 y F2 H2 q2 S2 ff2 k2 o2 ry => ?_) hx
  cases dy with
  | str s =>
    obtain rfl := RT.str ry.now
    obtain ⟨⟨e1, e2⟩, q⟩ := q2
    refine ⟨⟨s, rfl⟩, s, sep, rfl, rfl, e1, by rw [sizeLine_eq]; exact e2, fun r hr => ?_⟩
    have hH : H r = none := by
      cases e : H r with
      | none => rfl
      | some o => exact absurd hr (k2.dm r (by rw [e]; simp))
    exact hq _ _ z2 _ F2 _ q (S2.newH hr) ff2 (k2.updH hH) o2 ⟨r, _, rfl, upd_same, S2.free hr, hH, S2.npa hr, RpL.txt _⟩
  | _ => exact False.elim q2
@[simp] theorem fSplit_a (sep s : Str) (ρ : Rho) (Q : List D → Rho → Zs → Prop) (Y : Er → Rho → Zs → Prop) (z : Zs) : fSplit sep (.str s) ρ Q Y z = (((sep.length == 0) = false ∧ s.length + 2 ≤ 16777216) ∧ Q ((Txt.split s sep).map D.str) ρ z) := propext Iff.rfl
@[simp] theorem dStr_int (i : Int) (Q : D → Prop) : dStr (.int i) Q = (i.natAbs.log2 < 1920 ∧ Q (.str (toString i))) := propext Iff.rfl
@[simp] theorem dStr_str (s : Str) (Q : D → Prop) : dStr (.str s) Q = Q (.str s) := propext Iff.rfl
@[simp] theorem dIntX_a (s : Str) (Q : D → Prop) : dIntX (.str s) Q = ∃ n, PySem.intText? s = some n ∧ s.length ≤ 640 ∧ Q (.int n) := propext Iff.rfl
end
/-! ## a try whose body raises nothing -/
section
variable {X : Cx} {C : CC} {W : WX} {body : List Stmt} {h0 : ExceptHandler} {hds : List ExceptHandler} {pos : Pos} {k : Nat} {mb : E Fl}
def sTryN (mb : E Fl) : E Fl := fun ρ Q _ z => mb ρ Q (fun _ _ _ => False) z
@[simp] theorem sTryN_a (ρ : Rho) (Q : Fl → Rho → Zs → Prop) (Y : Er → Rho → Zs → Prop) (z : Zs) : sTryN mb ρ Q Y z = mb ρ Q (fun _ _ _ => False) z := propext Iff.rfl
theorem xs_tryN (kx : Kx X C W k) (hb : ∀ (pn : List (Addr × Obj)) (xe : Value → Shared → Prop), Kx (X.tr pn xe) C wN k → XSs (X.tr pn xe) C wN body mb) : XS X C W (.Try body (h0 :: hds) [] [] pos) (sTryN mb) := by
  refine ⟨fun D σ H => ∀ pn xe, Kx (X.tr pn xe) C wN k → ∃ t, PSs (X.tr pn xe) body t ∧ t D σ H, ⟨fun pins s σ H D I h => ?_⟩, fun σ ρ F H z Qd Xd Dn S hm hq hx pn xe kx' => ?_⟩
  · have ok := I.ok
    refine wpAny_Try_except ?_
    obtain ⟨t, t1, t2⟩ := h (X.pn ++ pins) (fun e s1 => wpAny (model X.prog X.w) X.A (noteFrame e X.env) (fun _ s2 => wpAny (model X.prog X.w) X.A (setFlight e none) (fun _ s3 => wpAny (model X.prog X.w) X.A (handleBy e X.env (h0 :: hds)) (SP X pins D) X.xe s3) X.xe s2) X.xe s1)
      ⟨kx.hK, kx.hmg, kx.calm, kx.gu, kx.room, takes_none5, kx.nd, PassesOwn.looking⟩
    refine wpAny_mono (t1.run [] s σ H D (I.toTry _) t2) (fun f s1 r => ?_) fun _ _ he => he
    cases f with
    | next =>
      obtain ⟨σ1, H1, J1, q⟩ := r
      exact wpAny_execs_nil ⟨σ1, H1, J1.ofTry ok, q⟩
    | brk =>
      obtain ⟨σ1, H1, J1, q⟩ := r
      exact ⟨σ1, H1, J1.ofTry ok, q⟩
    | cont =>
      obtain ⟨σ1, H1, J1, q⟩ := r
      exact ⟨σ1, H1, J1.ofTry ok, q⟩
    | ret u =>
      obtain ⟨v, σ1, H1, J1, rv, q⟩ := r
      exact ⟨v, σ1, H1, J1.ofTry ok, rv, q⟩
  · obtain ⟨t, t1, t2⟩ := (hb pn xe kx').ex
    exact ⟨t, t1, t2 σ ρ F H z Qd (fun _ _ _ => False) Dn S hm hq fun e ρ' z' cls dd σ' F' H' q => q.elim⟩
end
end DL

namespace DL
open PySem PySem.Spec PyProof.Rows L2

/-! ## o[i] by an own __getitem__ that raises nothing -/
structure GetO (K : PySem.W.Frag) (A g : Addr) : Prop where
  at_ : PySem.W.findIn K (.ref A) "__getitem__" = some (some (.ref g))
  fn : PySem.W.isFn K (.ref g) = true
  fi : PySem.W.fnIn K g = true
section
variable {X : Cx} {C : CC} {W : WX} {o b : Expr} {k j : Nat} {c : Str} {A g : Addr} {fd : FuncData} {ps : List Str} {sp : Sp} {pos : Pos}
theorem run_ixO {pins : List (Addr × Obj)} {σ : L2.St} {H : Hp} {s : Shared} {Q : VK} {a dx : Addr} {fs : List (Str × V)} {value slice : Expr} {y : V} {i : Value} (hm : GetO X.K A g) (G : GM X j g fd ps sp) (kx : Kx X C W k) (hj : j + 1 ≤ k) (h1 : ps.length = 2) (I : Inv X pins σ H s) (e0 : H a = some (.ins A dx fs)) (ry : RelV y i)
    (hsl : subscripted slice true (.ref a) i = runValue (.builtin "lifetime.subscript" ⟨[.ref a, i], []⟩)) (h : sp [.ref a, y] H Q (fun _ _ _ => False)) : wpAny (model X.prog X.w) X.A (subscriptTail value slice (.ref a) i) (EP X pins σ Q) X.xe s := by
  obtain ⟨_, O, _⟩ := ins_get I.hok e0
  obtain ⟨_, J, _⟩ := O.look
  have hroom : Room (j + 1) X.A := kx.room.mono hj
  have fi := hm.fi
  unfold PySem.W.fnIn at fi
  split at fi
  · rename_i e
    unfold subscriptTail getitemInPython
    refine wpAny_bind (wpAny_bind (wpAny_bind (J.type.here ((PySem.W.looks_findIn I.kIn hm.at_).here ?_))))
    dsimp only
    refine wpAny_bind (wpAny_load (I.kIn _ _ e) (wpAny_pure ?_))
    dsimp only
    rw [hsl]
    refine wpAny_bind (wpAny_runValue (codeAny_builtin PySem.W.entry_sub ?_))
    unfold Builtin.«lifetime.subscript»
    obtain ⟨us', b1, b2⟩ := G.bg.to s [.ref a, i] [] I.kIn h1.symm rfl
    refine wpAny_bind (PySem.W.special_fn I.kIn J hm.at_ (beq_iff_eq.mp hm.fn) (wpAny_call ?_))
    refine codeAny_mono (G.fn.run X.A.in1 X.stack s H ⟨[.ref a, i], []⟩ us' [.ref a, y] _ (fun _ _ _ => False) kx.gu hroom.in1 I.env0.in1 b1 (b2 _ [] (.cons rfl (.cons ry .nil)) .nil) h) fun r s' hq => ?_
    rcases r with er | fl
    · obtain ⟨_, _, _, _, _, _, _, _, _, _, _, _, hw⟩ := hq
      exact hw.elim
    · cases fl with
      | ret u =>
        have z := I.after hq
        refine wpAny_pure ?_
        show wpAny _ _ (letTemporaryGo value (.ref a) u >>= fun _ => pure u) _ _ _
        exact wpAny_bind (wpAny_letTemporaryGo (wpAny_pure z))
      | _ => exact False.elim hq
  · cases fi
def rIxO (A : Addr) (sp : Sp) : R2 := fun x y H Q => ∃ a dx fs, x = V.ref a ∧ H a = some (.ins A dx fs) ∧ sp [.ref a, y] H Q (fun _ _ _ => False)
def fIxO (c : Str) (m : List D → E0 D) (d i : D) : E D := fun ρ Q _ z => ((∃ ns ds, d = .ins c ns ds) ∧ ∃ n, i = .int n) ∧ m [d, i] (fun r z' => Q r ρ z') (fun _ _ => False) z
theorem o_ixO {mF : List D → E0 D} (kx : Kx X C W k) (hmg : X.mg c = some (.ref A)) : Op2 C W (rIxO A (spF X.K X.mg 2 mF)) (fIxO c mF) (kR C) := fun σ ρ F H z x y dx dy Qd Xd Q S rx ry hm hq hx => by
  obtain ⟨⟨⟨ns, ds, rfl⟩, n, rfl⟩, hm⟩ := hm
  obtain rfl := ry.int
  have rx' := RT.ins rx
  obtain ⟨a, dxx, xs, rfl, e2, l, r⟩ := Rp.insAt (by rw [← kx.hmg]; exact hmg) rx'
  refine ⟨a, dxx, _, rfl, S.sub _ _ e2 ngI, rfl, C.pa, F, z, [_, _], _, _, S.sub, ⟨S.pz, by rw [kx.hK, kx.hmg]; exact S.cs⟩, ?_, hm, fun d z' v F' H' q' a r => ?_, fun e z' cls dd F' H' q' a r => q'⟩
  · rw [kx.hK, kx.hmg]; exact .cons rx' (.cons (.int _) .nil)
  · rw [kx.hK, kx.hmg] at r a
    exact hq _ ρ z' _ F' H' q' (S.call a) a.1 a.2.2.1 Ole.refl r
theorem xe_ixO {ma mb : E D} {mF : List D → E0 D} (G : GM X j g fd ps (spF X.K X.mg 2 mF)) (kx : Kx X C W k) (hj : j + 1 ≤ k) (h1 : ps.length = 2) (hmg : X.mg c = some (.ref A)) (hm : GetO X.K A g) (ha : XP X C W o ma) (hb : XP X C W b mb)
    (hsl : ∀ a i, subscripted b true (.ref a) i = runValue (.builtin "lifetime.subscript" ⟨[.ref a, i], []⟩) := by intro _ _; rfl) : XE X C W (.Subscript o b pos) (eb ma fun d => eb mb fun i => fIxO c mF d i) := by
  obtain ⟨ta, a1, a2⟩ := ha.ex
  obtain ⟨tb, b1, b2⟩ := hb.ex
  refine ⟨tOp (rIxO A (spF X.K X.mg 2 mF)) ta tb, ⟨fun pins s σ H Q I h => ?_⟩, den_op back_R a2 b2 (o_ixO kx hmg)⟩
  refine Subscript_ (binT a1 b1 I h fun v u s2 x y H2 I2 rx ry q => ?_)
  obtain ⟨a, dx, fs, rfl, e0, q⟩ := q
  obtain rfl : v = Value.ref a := rx
  exact run_ixO hm G kx hj h1 I2 e0 ry (hsl a u) q
end
@[simp] theorem fIxO_a (c : Str) (ns : List Str) (fs : List D) (m : List D → E0 D) (n : Int) (ρ : Rho) (Q : D → Rho → Zs → Prop) (X : Er → Rho → Zs → Prop) (z : Zs) : fIxO c m (.ins c ns fs) (.int n) ρ Q X z = m [.ins c ns fs, .int n] (fun r z' => Q r ρ z') (fun _ _ => False) z := propext ⟨fun h => h.2, fun h => ⟨⟨⟨_, _, rfl⟩, _, rfl⟩, h⟩⟩
end DL

namespace DL
open PySem PySem.Spec PyProof.Rows L2

/-! ## [.. for x in l], l a list that may change later on -/
def lcLP (P : Zs → Prop) (vs : List Nat) (tg : Tg) (mt : E Bool) (me : E D) : List D → List D → E (List D)
  | [], acc => fun ρ Q _ z => P z ∧ Q acc ρ z
  | d :: ds, acc => fun ρ Q X z => P z ∧ tg d ρ fun ρ1 => mt ρ1 (fun t ρ2 z2 => if t = true then me ρ2 (fun y ρ3 z3 => acc.length < 16777216 ∧ lcLP P vs tg mt me ds (acc ++ [y]) (wipeR ρ3 vs) Q X z3) (fun _ _ _ => False) z2 else lcLP P vs tg mt me ds acc (wipeR ρ2 vs) Q X z2) (fun _ _ _ => False) z
def fLcP (vs : List Nat) (tg : Tg) (mt : E Bool) (me : E D) : D → E (List D)
  | .mc k => fun ρ Q X z => ∃ ds, z.cs[k]? = some (.lst ds) ∧ lcLP (fun z => z.cs[k]? = some (.lst ds)) vs tg mt me ds [] (wipeR ρ vs) Q X z
  | .lst ds => fun ρ Q X z => lcLP (fun _ => True) vs tg mt me ds [] (wipeR ρ vs) Q X z
  | _ => eStuck
def eLcP (vs : List Nat) (mi : E D) (tg : Tg) (mt : E Bool) (me : E D) : E (List D) := eb mi (fLcP vs tg mt me)
section
variable {X : Cx} {C : CC} {W : WX} {elt tg iter : Expr} {ifs : List Expr} {pos : Pos} {k : Nat} {scope : Scope} {own : List (Str × Nat)}
theorem xo_lcP {mi : E D} {g : Tg} {is : List Nat} {mt : E Bool} {me : E D} (kx : Kx X C W k) (hi : XE X C W iter mi) (ok : blkC X.N X.env.scope scope own = true)
    (blk : ∀ (s : Shared) (H : Hp) (Cc : Addr) (cl : List (Str × Addr)) (fp : List Addr) (D : Addr), Kx (Bk X scope s H Cc cl fp) (C.hide D) wN k → XG (Bk X scope s H Cc cl fp) (C.hide D) tg is g ∧ XTs (Bk X scope s H Cc cl fp) (C.hide D) wN ifs mt ∧ XE (Bk X scope s H Cc cl fp) (C.hide D) wN elt me)
    (his : ∀ i ∈ is, i ∈ own.map (·.2)) (hs : ∀ x, foldedSetIterable iter X.env x = pure x := by intro _; rfl) :
    XO X C W (.ListComp elt [⟨tg, iter, ifs, 0⟩] scope pos) (eLcP (own.map (·.2)) mi g mt me) := by
  obtain ⟨t, i1, i2⟩ := hi.ex
  let gU : TG := fun v σ H Q => ∀ s H2 Cc cl fp, ∃ t, PG (Bk X scope s H2 Cc cl fp) tg t ∧ t v σ H Q
  let tU : TT := fun σ H Q => ∀ s H2 Cc cl fp, ∃ t, PTs (Bk X scope s H2 Cc cl fp) ifs t ∧ t σ H Q
  let eU : TE := fun σ H Q => ∀ s H2 Cc cl fp, ∃ t, PE (Bk X scope s H2 Cc cl fp) elt t ∧ t σ H Q
  have all : ∀ (s : Shared) (H : Hp) (Cc : Addr) (cl : List (Str × Addr)) (fp : List Addr), PG (Bk X scope s H Cc cl fp) tg gU ∧ PTs (Bk X scope s H Cc cl fp) ifs tU ∧ PE (Bk X scope s H Cc cl fp) elt eU := fun s H Cc cl fp => by
    refine ⟨⟨fun pins s1 σ H1 v u Q I r h => ?_⟩, ⟨fun pins s1 σ H1 Q I h => ?_⟩, ⟨fun pins s1 σ H1 Q I h => ?_⟩⟩
    · obtain ⟨t, a1, a2⟩ := h s H Cc cl fp
      exact a1.run pins s1 σ H1 v u Q I r a2
    · obtain ⟨t, a1, a2⟩ := h s H Cc cl fp
      exact a1.run pins s1 σ H1 Q I a2
    · obtain ⟨t, a1, a2⟩ := h s H Cc cl fp
      exact a1.run pins s1 σ H1 Q I a2
  have d1 : ∀ D, DenG (C.hide D) gU is g := fun D σ ρ F H z v d Qd Q S r hm hq s H2 Cc cl fp => by
    obtain ⟨t, a1, a2⟩ := (blk s H2 Cc cl fp D (kx_blk kx)).1.ex
    exact ⟨t, a1, a2 σ ρ F H z v d Qd Q S r hm hq⟩
  have d2 : ∀ D, Den (C.hide D) wN tU mt kB := fun D σ ρ F H z Qd Xd Q S hm hq hx s H2 Cc cl fp => by
    obtain ⟨t, a1, a2⟩ := (blk s H2 Cc cl fp D (kx_blk kx)).2.1.ex
    exact ⟨t, a1, a2 σ ρ F H z Qd Xd Q S hm hq hx⟩
  have d3 : ∀ D, Den (C.hide D) wN eU me (kR C) := fun D σ ρ F H z Qd Xd Q S hm hq hx s H2 Cc cl fp => by
    obtain ⟨t, a1, a2⟩ := (blk s H2 Cc cl fp D (kx_blk kx)).2.2.ex
    exact ⟨t, a1, a2 σ ρ F H z Qd Xd Q S hm hq hx⟩
  refine ⟨_, pe_lc (own := own) (g := gU) (tt := tU) (te := eU) kx.calm kx.nd (pi_list i1) (blkOk_by ok) (fun s H Cc cl fp => (all s H Cc cl fp).1) (fun s H Cc cl fp => (all s H Cc cl fp).2.1) (fun s H Cc cl fp => (all s H Cc cl fp).2.2) hs, fun σ ρ F H z Qd Xd Q S hm hq hx => ?_⟩
  refine i2 σ ρ F H z _ Xd _ S hm (fun dd ρ1 z1 v F1 H1 q1 S1 ff1 k1 o1 r1 => ?_) hx
  -- the list as it stands, where P holds
  have main : ∀ (P : Zs → Prop) (l : Addr) (ds : List D), v = .ref l → lcLP P (own.map fun x : Str × Nat => x.2) g mt me ds [] (wipeR ρ1 (own.map fun x : Str × Nat => x.2)) Qd Xd z1 →
      (∀ {C' : CC} {σ' : L2.St} {ρ' : Rho} {F' H' : Hp} {z' : Zs}, C'.K = C.K → C'.mg = C.mg → C'.pa = C.pa → StOk C' σ' ρ' F' H' z' → Same F1 F' → P z' → ∃ xs, H' l = some (.lst xs) ∧ C.RL F' xs ds) → P z1 →
      ∃ a, v = .ref a ∧ (∃ xs, SqL X.K H1 a xs) ∧ ∀ D, H1 D = none → ∃ W : Nat → Nat → Hp → Prop, (∃ m, W 0 m (upd H1 D (.lst []))) ∧ ∀ i m H, W i m H → ((Itl X.K a).stop i H ∧ Q (.ref D) H) ∨ ((Itl X.K a).go i H ∧ ∃ Nx : Hp → Prop, (∀ H', Nx H' → ∃ m', m' < m ∧ W (i + 1) m' H') ∧ ∀ x H', (Itl X.K a).yld i H x H' → gU x (wipe σ (own.map (·.2))) H' fun σ2 H2 => wipe σ2 (own.map (·.2)) = wipe σ (own.map (·.2)) ∧ tU σ2 H2 fun b H3 =>
        if b = true then eU σ2 H3 fun y H4 => ∃ acc, H4 D = some (.lst acc) ∧ acc.length < sizeLine ∧ Nx (upd H4 D (.lst (acc ++ [y]))) else Nx H3) := by
    rintro P l ds rfl q1 now p1
    obtain ⟨xs0, e0, r0⟩ := now rfl rfl rfl S1 (Same.refl _) p1
    refine ⟨l, rfl, ⟨xs0, .inl (.inl e0)⟩, fun D hD => ?_⟩
    have h0D : C.H0 D = none := S1.h0None hD (S1.npa hD)
    have npD := S1.npa hD
    have oW : ∀ {ρa : Rho}, Ole ρa ρ1 → Ole (wipeR ρa (own.map (·.2))) ρ1 := fun {ρa} o i ys e => by
      rcases wipeR_some e with h | ⟨_, h⟩
      · cases h
      · exact o i ys h
    refine ⟨fun i m H' => m = ds.length - i ∧ i ≤ ds.length ∧ ∃ ρx F' z' acc xs, StOk (C.hide D) (wipe σ (own.map (·.2))) (wipeR ρx (own.map (·.2))) F' H' z' ∧ Same F1 F' ∧ Keep C.pa F1 F' H1 H' ∧ Ole (wipeR ρx (own.map (·.2))) ρ1 ∧ H' D = some (.lst xs) ∧ C.RL F' xs acc ∧
        lcLP P (own.map fun x : Str × Nat => x.2) g mt me (ds.drop i) acc (wipeR ρx (own.map fun x : Str × Nat => x.2)) Qd Xd z', ⟨ds.length, by simp, Nat.zero_le _, ρ1, F1, z1, [], [], (S1.hideN hD).wipe, Same.refl _, Keep.new hD, oW Ole.refl, upd_same, .nil, q1⟩, ?_⟩
    rintro i m H2 ⟨rfl, hi, ρx, F2, z2, acc, xs, S2, ff2, k2, o2, hx2, rx2, q2⟩
    cases hd : ds[i]? with
    | none =>
      have hl : ds.length ≤ i := List.getElem?_eq_none_iff.mp hd
      rw [List.drop_eq_nil_of_le hl] at q2
      obtain ⟨p2, q2⟩ := q2
      obtain ⟨ys, e2, r2⟩ := now (C' := C.hide D) rfl rfl rfl S2 ff2 p2
      have ly := RpL.length r2
      refine .inl ⟨⟨ys, .inl (.inl e2), by omega⟩, ?_⟩
      have hH : H D = none := by
        cases q : H D with
        | none => rfl
        | some o => exact absurd hD (k1.dm D (by rw [q]; simp))
      exact hq acc _ z2 _ F2 H2 q2 S2.leave (ff1.trans ff2) (k1.trans k2) (o2.trans o1) ⟨D, xs, rfl, hx2, (S2.hd D List.mem_cons_self).1, hH, npD, rx2⟩
    | some d =>
      obtain ⟨hlt, hget⟩ := List.getElem?_eq_some_iff.mp hd
      rw [List.drop_eq_getElem_cons hlt, hget] at q2
      obtain ⟨p2, q2⟩ := q2
      obtain ⟨ys, e2, r2⟩ := now (C' := C.hide D) rfl rfl rfl S2 ff2 p2
      obtain ⟨u, e3, r3⟩ := RpL.get r2 hd
      have sq : SqL X.K H2 l ys := .inl (.inl e2)
      refine .inr ⟨⟨ys, u, sq, e3⟩, fun H' => ∃ ρx F' z' acc xs, StOk (C.hide D) (wipe σ (own.map (·.2))) (wipeR ρx (own.map (·.2))) F' H' z' ∧ Same F1 F' ∧ Keep C.pa F1 F' H1 H' ∧ Ole (wipeR ρx (own.map (·.2))) ρ1 ∧ H' D = some (.lst xs) ∧ C.RL F' xs acc ∧
        lcLP P (own.map fun x : Str × Nat => x.2) g mt me (ds.drop (i + 1)) acc (wipeR ρx (own.map fun x : Str × Nat => x.2)) Qd Xd z', fun H' w => ⟨_, by omega, rfl, hlt, w⟩, fun x H3 y => ?_⟩
      obtain ⟨rfl, y⟩ := y
      have e4 := y ys sq
      rw [e3] at e4
      cases e4
      refine d1 D _ _ F2 H3 z2 _ d _ _ S2 r3 q2 (fun σ4 ρ4 q4 S4 u4 o4 => ?_)
      have ew : wipe σ4 (own.map (·.2)) = wipe σ (own.map (·.2)) := wipe_eq his u4.1 u4.2
      refine ⟨ew, ?_⟩
      refine d2 D σ4 ρ4 F2 H3 z2 _ (fun _ _ _ => False) _ S4 q4 (fun bb ρ5 z5 b F5 H5 q5 S5 ff5 k5 o5 r5 => ?_) (fun e ρ' z' cls dd F' H' q => q.elim)
      obtain rfl : b = bb := r5
      have hx5 : H5 D = some (.lst xs) := k5.ke D _ hx2 npD (nog (S4.hd D List.mem_cons_self).1)
      cases b with
      | false =>
        rw [if_neg Bool.false_ne_true] at q5 ⊢
        exact ⟨ρ5, F5, z5, acc, xs, ew ▸ S5.wipe, ff2.trans ff5, k2.trans k5, oW ((o5.trans o4).trans o2), hx5, RpL.mono ff5 rx2, q5⟩
      | true =>
        rw [if_pos rfl] at q5 ⊢
        refine d3 D σ4 ρ5 F5 H5 z5 _ (fun _ _ _ => False) _ S5 q5 (fun yd ρ6 z6 yv F6 H6 q6 S6 ff6 k6 o6 r6 => ?_) (fun e ρ' z' cls dd F' H' q => q.elim)
        have hx6 : H6 D = some (.lst xs) := k6.ke D _ hx5 npD (nog (S5.hd D List.mem_cons_self).1)
        have rx6 : C.RL F6 xs acc := RpL.mono (ff5.trans ff6) rx2
        refine ⟨xs, hx6, by rw [RpL.length rx6, sizeLine_eq]; exact q6.1, ρ6, F6, z6, acc ++ [yd], xs ++ [yv], ?_, (ff2.trans ff5).trans ff6, ((k2.trans k5).trans k6).updH hD, oW (((o6.trans o5).trans o4).trans o2), upd_same, RpL.app1 rx6 r6, q6.2⟩
        rw [← ew]
        exact (S6.hidUpd List.mem_cons_self h0D).wipe
  cases dd with
  | mc k =>
    cases r1 with
    | @mc l _ eg =>
      obtain ⟨ds, e0, q1⟩ := q1
      exact main (fun z => z.cs[k]? = some (.lst ds)) l ds rfl q1 (fun {C' σ' ρ' F' H' z'} a1 a2 a3 S' ff e => by
        obtain ⟨o, c, e1, e2, e3⟩ := S'.cs.get (ff _ _ eg)
        rw [e] at e2
        cases e2
        obtain ⟨xs, rfl, r⟩ := e3
        rw [a1, a2, a3] at r
        exact ⟨xs, e1, r⟩) e0
  | lst ds =>
    cases r1 with
    | @lst l xs _ np el rl =>
    exact main (fun _ => True) l ds rfl q1 (fun {C' σ' ρ' F' H' z'} a1 a2 a3 S' ff _ => ⟨xs, S'.sub _ _ (ff _ _ el) ngL, RpL.mono ff rl⟩) trivial
  | _ => exact False.elim q1
/-! ## b.insert(i, y), b a list that changes -/
def fInsC (ms : E (List D)) : D → E Fl
  | .mc k => fun ρ Q X z => (∃ ds, z.cs[k]? = some (.lst ds)) ∧ ms ρ (fun as ρ' z' => match as with
    | [.int i, y] => ∃ ds, z'.cs[k]? = some (.lst ds) ∧ (0 ≤ i ∧ i < 2 ^ 63 ∧ ds.length < 16777216) ∧ Q .nx ρ' { z' with cs := z'.cs.set k (.lst (insD ds i.toNat y)) }
    | _ => False) X z
  | _ => eStuck
variable {a b c : Expr} {ms : E (List D)} {mb : E D} {p1 p2 p3 : Pos}
theorem xs_insC (hb : XE X C W b mb) (ha : XA X C W [a, c] ms) (hbase : attributeBase b "insert" X.env (eval b X.env) = eval b X.env := by rfl)
    (hfew : ((backTo p2 (starEach (a :: [c]) X.env)).all (fun x => !x.1) && (backToKw p2 (keywordEach [] X.env)).all (fun x => x.1.isSome)
      && decide ((a :: ([c] : List Expr)).length + ([] : List Keyword).length + (if ([] : List Keyword).isEmpty then 0 else 1) < 30)) = true := by rfl)
    (hline : (p1.endLine == p2.line) = true := by rfl) (h1 : starEach (a :: [c]) X.env = (false, eval a X.env) :: starEach [c] X.env := by rfl) (hpl : (backTo p2 (starEach [c] X.env)).any (·.1) = false := by rfl)
    (hs : swapsWith (.Call (.Attribute b "insert" p1) [a, c] [] p2) none p3.line X.env = pure false := by rfl) : XS X C W (.Expr (.Call (.Attribute b "insert" p1) [a, c] [] p2) p3) (eb mb (fInsC ms)) := by
  obtain ⟨t, t1, t2⟩ := ha.ex
  obtain ⟨u, u1, u2⟩ := hb.ex
  refine ⟨_, ps_expr (pe_bm PySem.F.plainAttrs_list PySem.F.slot_list_insert PySem.F.type_list_insert mt_insert u1 t1 hbase hfew hline h1 hpl) hs, fun σ ρ F H z Qd Xd Dn S hm hq hx => ?_⟩
  refine u2 σ ρ F H z _ Xd _ S hm (fun d ρ1 z1 v F1 H1 q1 S1 ff1 k1 o1 r1 => ?_) (fun e ρ' z' cls dd F' H' q S' ff r => hx e ρ' z' cls dd σ F' H' q S' ff r)
  cases d with
  | mc k =>
    cases r1 with
    | @mc l _ eg =>
      obtain ⟨⟨ds0, eq0⟩, q1⟩ := q1
      obtain ⟨o, c0, e1, e2, e3⟩ := S1.cs.get eg
      rw [eq0] at e2
      cases e2
      obtain ⟨xs0, rfl, r0⟩ := e3
      refine ⟨.inl ⟨rfl, xs0, .inl (.inl e1)⟩, ?_⟩
      refine t2 σ ρ1 F1 H1 z1 _ Xd _ S1 q1 (fun as ρ2 z2 vs F2 H2 q2 S2 ff2 k2 o2 r2 => ?_) (fun e ρ' z' cls dd F' H' q S' ff r => hx e ρ' z' cls dd σ F' H' q S' (ff1.trans ff) r)
      match as, q2, r2 with
      | [.int i, y], q2, r2 =>
        obtain ⟨ds, eq1, hl, q2⟩ := q2
        have eg2 : F2 l = some (gh k) := ff2 _ _ eg
        obtain ⟨o', c', f1, f2, f3⟩ := S2.cs.get eg2
        rw [eq1] at f2
        cases f2
        obtain ⟨xs, rfl, rr⟩ := f3
        cases r2 with
        | cons ra rb =>
          cases ra
          cases rb with
          | cons ry rn =>
            cases rn
            refine ⟨l, xs, i, _, rfl, rfl, f1, by rw [RpL.length rr, sizeLine_eq]; exact hl.2.2, hl.1, hl.2.1, ?_⟩
            exact hq .nx _ _ F2 _ q2 (ff1.trans ff2) σ (S2.setC (c := .lst (insD ds i.toNat y)) eg2 ⟨_, rfl, RpL.append (RpL.append (RpL.take _ rr) (.cons ry .nil)) (RpL.drop _ rr)⟩)
  | _ => exact False.elim q1
end
section
variable (ρ : Rho) (Q : Fl → Rho → Zs → Prop) (Y : Er → Rho → Zs → Prop) (z : Zs)
theorem fInsC_a (ms : E (List D)) (k : Nat) : fInsC ms (.mc k) ρ Q Y z = ((∃ ds, z.cs[k]? = some (.lst ds)) ∧ ms ρ (fun as ρ' z' => match as with
    | [.int i, y] => ∃ ds, z'.cs[k]? = some (.lst ds) ∧ (0 ≤ i ∧ i < 2 ^ 63 ∧ ds.length < 16777216) ∧ Q .nx ρ' { z' with cs := z'.cs.set k (.lst (insD ds i.toNat y)) }
    | _ => False) Y z) := propext Iff.rfl
end
end DL

namespace DL
open PySem PySem.Spec PyProof.Rows L2

/-! ## o[i] by an own __getitem__ that may raise -/
section
variable {X : Cx} {C : CC} {W : WX} {o b : Expr} {k j : Nat} {c : Str} {A g : Addr} {fd : FuncData} {ps : List Str} {sp : Sp} {pos : Pos}
theorem run_ixR {pins : List (Addr × Obj)} {σ : L2.St} {H : Hp} {s : Shared} {Q : VK} {a dx : Addr} {fs : List (Str × V)} {value slice : Expr} {y : V} {i : Value} (hm : GetO X.K A g) (G : GM X j g fd ps sp) (kx : Kx X C W k) (hj : j + 1 ≤ k) (h1 : ps.length = 2) (I : Inv X pins σ H s) (e0 : H a = some (.ins A dx fs)) (ry : RelV y i)
    (hsl : subscripted slice true (.ref a) i = runValue (.builtin "lifetime.subscript" ⟨[.ref a, i], []⟩)) (h : sp [.ref a, y] H Q (WE W σ)) : wpAny (model X.prog X.w) X.A (subscriptTail value slice (.ref a) i) (EP X pins σ Q) X.xe s := by
  obtain ⟨_, O, _⟩ := ins_get I.hok e0
  obtain ⟨_, J, _⟩ := O.look
  have hroom : Room (j + 1) X.A := kx.room.mono hj
  have fi := hm.fi
  unfold PySem.W.fnIn at fi
  split at fi
  · rename_i e
    unfold subscriptTail getitemInPython
    refine wpAny_bind (wpAny_bind (wpAny_bind (J.type.here ((PySem.W.looks_findIn I.kIn hm.at_).here ?_))))
    dsimp only
    refine wpAny_bind (wpAny_load (I.kIn _ _ e) (wpAny_pure ?_))
    dsimp only
    rw [hsl]
    refine wpAny_bind (wpAny_runValue (codeAny_builtin PySem.W.entry_sub ?_))
    unfold Builtin.«lifetime.subscript»
    obtain ⟨us', b1, b2⟩ := G.bg.to s [.ref a, i] [] I.kIn h1.symm rfl
    refine wpAny_bind (PySem.W.special_fn I.kIn J hm.at_ (beq_iff_eq.mp hm.fn) (wpAny_call ?_))
    refine codeAny_mono (G.fn.run X.A.in1 X.stack s H ⟨[.ref a, i], []⟩ us' [.ref a, y] _ (WE W σ) kx.gu hroom.in1 I.env0.in1 b1 (b2 _ [] (.cons rfl (.cons ry .nil)) .nil) h) fun r s' hq => ?_
    rcases r with er | fl
    · exact passAt kx.tk σ pins H s er s' I hq
    · cases fl with
      | ret u =>
        have z := I.after hq
        refine wpAny_pure ?_
        show wpAny _ _ (letTemporaryGo value (.ref a) u >>= fun _ => pure u) _ _ _
        exact wpAny_bind (wpAny_letTemporaryGo (wpAny_pure z))
      | _ => exact False.elim hq
  · cases fi
def tIxR (A : Addr) (sp : Sp) (W : WX) (ta tb : TE) : TE := fun σ H Q => ta σ H fun x H1 => tb σ H1 fun y H2 => ∃ a dx fs, x = V.ref a ∧ H2 a = some (.ins A dx fs) ∧ sp [.ref a, y] H2 Q (WE W σ)
def fIxR {α : Type} (c : Str) (m : List D → E0 α) (mb : E D) (d : D) : E α := fun ρ Q X z => (∃ ns ds, d = .ins c ns ds) ∧ mb ρ (fun i ρ' z' => (∃ n, i = .int n) ∧ e0 (m [d, i]) ρ' Q X z') X z
theorem xe_ixR {ma mb : E D} {mF : List D → E0 D} (G : GM X j g fd ps (spF X.K X.mg 2 mF)) (kx : Kx X C W k) (hj : j + 1 ≤ k) (h1 : ps.length = 2) (hmg : X.mg c = some (.ref A)) (hm : GetO X.K A g) (ha : XE X C W o ma) (hb : XE X C W b mb)
    (hsl : ∀ a i, subscripted b true (.ref a) i = runValue (.builtin "lifetime.subscript" ⟨[.ref a, i], []⟩) := by intro _ _; rfl) : XE X C W (.Subscript o b pos) (eb ma (fIxR c mF mb)) := by
  obtain ⟨ta, a1, a2⟩ := ha.ex
  obtain ⟨tb, b1, b2⟩ := hb.ex
  refine ⟨tIxR A (spF X.K X.mg 2 mF) W ta tb, ⟨fun pins s σ H Q I h => ?_⟩, ?_⟩
  · refine Subscript_ (binT a1 b1 I h fun v u s2 x y H2 I2 rx ry q => ?_)
    obtain ⟨a, dx, fs, rfl, e0, q⟩ := q
    obtain rfl : v = Value.ref a := rx
    exact run_ixR hm G kx hj h1 I2 e0 ry (hsl a u) q
  · refine Den.bind (u := fun x σ H Q => tb σ H fun y H2 => ∃ a dx fs, x = V.ref a ∧ H2 a = some (.ins A dx fs) ∧ spF X.K X.mg 2 mF [.ref a, y] H2 Q (WE W σ)) back_R a2 ?_
    intro H0 σ ρ F H z d x Qd Xd Q S ra hm' hq hx
    obtain ⟨⟨ns, ds, rfl⟩, hm'⟩ := hm'
    refine b2 σ ρ F H z _ Xd _ S hm' (fun i ρ2 z2 y F2 H2 q2 S2 ff2 k2 o2 rb => ?_) hx
    obtain ⟨⟨n, rfl⟩, q2⟩ := q2
    have ra2 : C.R F2 x (.ins c ns ds) := Rp.mono ff2 ra
    obtain ⟨o', dx', xs', rfl, e3, l', r'⟩ := Rp.insAt (by rw [← kx.hmg]; exact hmg) ra2
    have rr : C.RL F2 [V.ref o', y] [.ins c ns ds, .int n] := .cons ra2 (.cons rb .nil)
    refine ⟨o', dx', _, rfl, S2.sub _ _ e3 ngI, rfl, C.pa, F2, z2, _, _, _, S2.sub, ⟨S2.pz, by rw [kx.hK, kx.hmg]; exact S2.cs⟩, by rw [kx.hK, kx.hmg]; exact rr, q2, fun d z' v F' H' q' a r => ?_, fun e z' cls dd F' H' q' a r => ?_⟩
    · rw [kx.hK, kx.hmg] at r a
      exact hq d ρ2 z' v F' H' q' (S2.call a) (ff2.trans a.1) (k2.trans a.2.2.1) o2 r
    · rw [kx.hK, kx.hmg] at r a
      exact hx e ρ2 z' cls dd F' H' q' (S2.call a) (ff2.trans a.1) r
end
@[simp] theorem fIxR_a {α : Type} (c : Str) (ns : List Str) (fs : List D) (m : List D → E0 α) (mb : E D) (ρ : Rho) (Q : α → Rho → Zs → Prop) (X : Er → Rho → Zs → Prop) (z : Zs) : fIxR c m mb (.ins c ns fs) ρ Q X z = mb ρ (fun i ρ' z' => (∃ n, i = .int n) ∧ m [.ins c ns fs, i] (fun r z' => Q r ρ' z') (fun e z' => X e ρ' z') z') X z := propext ⟨fun h => h.2, fun h => ⟨⟨_, _, rfl⟩, h⟩⟩

/-! ## o.m(k=e) -/
section
variable {X : Cx} {C : CC} {W : WX} {o : Expr} {k j n N : Nat} {m c : Str} {A g : Addr} {fd : FuncData} {ps ks : List Str} {sp : Sp} {ta : TE} {tk : TA} {apos pos : Pos} {kws : List Keyword} {pl : Sem Bool}
def tMK (A : Addr) (m : Str) (l : Nat) (sp : Sp) (W : WX) (ta : TE) (tk : TA) : TE := fun σ H Q => ta σ H fun x H1 => ∃ a dx fs, x = .ref a ∧ H1 a = some (.ins A dx fs) ∧ fs.lookup m = none ∧ tk σ H1 fun zs H2 => zs.length = l ∧ sp (gKW [.ref a] zs) H2 Q (WE W σ)
theorem pe_methGK (he : PE X o ta) (c : Cls X.K A) (hm : Meth X.K A m g) (F : FnG X.prog X.w X.K X.mg X.base j g fd ps sp) (hb : BG X.K fd ps ks 1 gKW gKW) (kx : Kx X C W k) (hj : j ≤ k) (hkw : PK X kws tk)
    (hall : (backToKw pos (keywordEach kws X.env)).all (·.1.isSome) = true := by rfl) (hks : (backToKw pos (keywordEach kws X.env)).filterMap (·.1) = ks := by rfl)
    (hpl : ((backTo pos (starEach [] X.env)).any (·.1) || (backToKw pos (keywordEach kws X.env)).any (·.1.isNone)) = false := by rfl)
    (ht : eval (.Call (.Attribute o m apos) [] kws pos) X.env = (do
      let ov ← eval o X.env
      standAt apos.atName
      let (f, first) ← holding [ov] (getMethod ov m pl)
      callWith pos f first (backTo pos (starEach [] X.env)) (backToKw pos (keywordEach kws X.env))) := by rfl) : PE X (.Call (.Attribute o m apos) [] kws pos) (tMK A m ks.length sp W ta tk) := by
  refine ⟨fun pins s σ H Q I h => ?_⟩
  refine PySem.W.methodCall_KW (pl := pl) (thn (he.run pins s σ H _ I h) fun u s1 ⟨x, H1, I1, rx, a, dx, fs, ex, ea, l, q⟩ => ?_) ht
  subst ex
  obtain rfl : u = Value.ref a := rx
  refine getmeth_ok I1 ea c hm l ?_
  refine PySem.W.callWith_KW0 (first := [.ref a]) (h₀ := X.base) I.ok.mod.kin hm.kp hall (thn (hkw.run pos pins s1 σ H1 _ I1 q) fun ws s2 ⟨zs, H2, I2, rz, l2, q2⟩ => ⟨I2.kIn, ?_⟩) hpl
  rw [hks]
  exact run_g (us := [.ref a]) (ws := ws) (vs := [.ref a]) (zs := zs) F kx hj hb I2 (.cons rfl .nil) rz rfl l2 q2
def fMethK {α : Type} (c m : Str) (n l : Nat) (mm : List D → E0 α) (mk : E (List D)) (d : D) : E α := fun ρ Q X z => (∃ ns fs, d = .ins c ns fs ∧ m ∉ ns) ∧ mk ρ (fun es ρ' z' => es.length = l ∧ l + 1 = n ∧ e0 (mm (d :: es)) ρ' Q X z') X z
abbrev eMethK {α : Type} (c m : Str) (n l : Nat) (mm : List D → E0 α) (mo : E D) (mk : E (List D)) : E α := eb mo fun d => fMethK c m n l mm mk d
theorem den_methFK {mm : List D → E0 D} {mo : E D} {mk : E (List D)} {l : Nat} (kx : Kx X C W k) (hm : X.mg c = some (.ref A)) (ho : Den C W ta mo (kR C)) (hk : Den C W tk mk (kL C)) : Den C W (tMK A m l (spF X.K X.mg n mm) W ta tk) (eMethK c m n l mm mo mk) (kR C) := by
  refine Den.bind (u := fun x σ H Q => ∃ a dx fs, x = V.ref a ∧ H a = some (.ins A dx fs) ∧ fs.lookup m = none ∧ tk σ H fun zs H2 => zs.length = l ∧ spF X.K X.mg n mm (gKW [.ref a] zs) H2 Q (WE W σ)) back_R ho ?_
  intro H0 σ ρ F H z d x Qd Xd Q S ra hm' hq hx
  obtain ⟨⟨ns, ds, rfl, hn⟩, hm'⟩ := hm'
  obtain ⟨o, dx, xs, rfl, e2, l0, r⟩ := Rp.insAt (by rw [← kx.hmg]; exact hm) ra
  refine ⟨o, dx, _, rfl, S.sub _ _ e2 ngI, look_out hn, ?_⟩
  refine hk σ ρ F H z _ Xd _ S hm' (fun es ρ2 z2 vs F2 H2 q2 S2 ff2 k2 o2 rb => ?_) hx
  obtain ⟨q1, q3, q4⟩ := q2
  have rr : C.RL F2 (gKW [V.ref o] vs) (.ins c ns ds :: es) := by
    have : gKW [V.ref o] vs = V.ref o :: vs := by simp [gKW]
    rw [this]
    exact .cons (Rp.mono ff2 ra) rb
  refine ⟨by rw [RpL.length rb]; exact q1, by rw [RpL.length rr, List.length_cons]; omega, C.pa, F2, z2, _, _, _, S2.sub, ⟨S2.pz, by rw [kx.hK, kx.hmg]; exact S2.cs⟩, by rw [kx.hK, kx.hmg]; exact rr, q4, fun d z' v F' H' q' a r => ?_, fun e z' cls dd F' H' q' a r => ?_⟩
  · rw [kx.hK, kx.hmg] at r a
    exact hq d ρ2 z' v F' H' q' (S2.call a) (ff2.trans a.1) (k2.trans a.2.2.1) o2 r
  · rw [kx.hK, kx.hmg] at r a
    exact hx e ρ2 z' cls dd F' H' q' (S2.call a) (ff2.trans a.1) r
theorem xe_methK {mo : E D} {mk : E (List D)} {mF : List D → E0 D} (G : GM X j g fd ps (spF X.K X.mg n mF)) (kx : Kx X C W k) (hj : j ≤ k) (hb : BG X.K fd ps ks 1 gKW gKW) (hmg : X.mg c = some (.ref A)) (hc : Cls X.K A) (hm : Meth X.K A m g) (ho : XE X C W o mo) (hkw : XKw X C W kws mk)
    (hall : (backToKw pos (keywordEach kws X.env)).all (·.1.isSome) = true := by rfl) (hks : (backToKw pos (keywordEach kws X.env)).filterMap (·.1) = ks := by rfl)
    (hpl : ((backTo pos (starEach [] X.env)).any (·.1) || (backToKw pos (keywordEach kws X.env)).any (·.1.isNone)) = false := by rfl) (hl : ks.length = N := by rfl)
    (ht : eval (.Call (.Attribute o m apos) [] kws pos) X.env = (do
      let ov ← eval o X.env
      standAt apos.atName
      let (f, first) ← holding [ov] (getMethod ov m pl)
      callWith pos f first (backTo pos (starEach [] X.env)) (backToKw pos (keywordEach kws X.env))) := by rfl) : XE X C W (.Call (.Attribute o m apos) [] kws pos) (eMethK c m n N mF mo mk) := by
  subst hl
  obtain ⟨t1, h1, h2⟩ := ho.ex
  obtain ⟨t2, g1, g2⟩ := hkw.ex
  exact ⟨_, pe_methGK h1 hc hm G.fn hb kx hj g1 hall hks hpl ht, den_methFK kx hmg h2 g2⟩
end
@[simp] theorem fMethK_a {α : Type} (c m : Str) (n l : Nat) (mm : List D → E0 α) (mk : E (List D)) (ns : List Str) (fs : List D) (ρ : Rho) (Q : α → Rho → Zs → Prop) (X : Er → Rho → Zs → Prop) (z : Zs) (h : m ∉ ns) : fMethK c m n l mm mk (.ins c ns fs) ρ Q X z = mk ρ (fun es ρ' z' => es.length = l ∧ l + 1 = n ∧ mm (.ins c ns fs :: es) (fun r z' => Q r ρ' z') (fun e z' => X e ρ' z') z') X z := propext ⟨fun h => h.2, fun q => ⟨⟨_, _, rfl, h⟩, q⟩⟩
end DL

namespace DL
open PySem PySem.Spec PyProof.Rows L2
/-! ## {**d, "k": v, ..} -/
section
variable {prog : Program} {w : World} {K : Type} [DecidableEq K] {knd : KeyKind prog w K} {A : Around} {E : Value → Shared → Prop} {s : Shared}
theorem dictPut_pairs {d : Addr} {kvs : List (K × Value)} {k : K} {key v : Value} {Q : Unit → Shared → Prop} (hkey : knd.is k key = true) (hm : s.heap.DictOf knd d kvs)
    (hQ : ∀ h', h'.DictOf knd d (stored kvs k v) → Heap.SameBut d s.heap h' → Q () { s with heap := h' }) (hsz : kvs.length ≤ sizeLine) : wpAny (model prog w) A (dictPut d (knd.hash k) key v) Q E s := by
  obtain ⟨o, es, ep, ho, hc, hd, hk, hp, hn⟩ := hm
  have hes : es.size ≤ sizeLine := by
    have e1 := hp.length
    have e2 : es.toList.length = es.size := by simp
    omega
  unfold dictPut
  refine wpAny_bind (wpAny_dictFind_of hkey ho hd hk ?_)
  have hidx : (es.findIdx? fun e => knd.is k e.key) = kvs.findIdx? fun kv => decide (kv.1 = k) := by
    rw [← hp.findIdx k]; obtain ⟨l⟩ := es; simp
  cases hi : es.findIdx? fun e => knd.is k e.key with
  | some i =>
    refine wpAny_updateDict ho hd (hQ _ ⟨_, _, ep, Heap.get?_update_self _ ho (Obj.isFreed_of_dict (Obj.data_mapDict hd _)), hc.mapDict _, Obj.data_mapDict hd _, hk.modify _ _, ?_, ?_⟩ (Heap.SameBut.update ..))
    · rw [stored, if_pos (any_of_findIdx_some (hidx ▸ hi))]
      have hl : (es.toList.findIdx? fun e => knd.is k e.key) = some i := by rw [← hi]; obtain ⟨l⟩ := es; simp
      have := hp.modify hn hl v
      obtain ⟨l⟩ := es
      simpa using this
    · rw [stored, if_pos (any_of_findIdx_some (hidx ▸ hi)), keys_map_store]; exact hn
  | none =>
    have hnot : k ∉ kvs.map (·.1) := not_mem_of_findIdx_none (hidx ▸ hi)
    have hany : ¬ (kvs.any fun kv => decide (kv.1 = k)) = true := by
      rw [List.any_eq_true]; rintro ⟨kv, hkv, he⟩
      exact hnot (List.mem_map.mpr ⟨kv, hkv, of_decide_eq_true he⟩)
    refine wpAny_updateDictKeys (hz := hes) ho hd (hQ _ ⟨_, _, ep + 1, Heap.get?_update_self _ ho (Obj.isFreed_of_dict (Obj.data_mapDictKeys hd _)), hc.mapDictKeys _, Obj.data_mapDictKeys hd _, hk.push hkey _, ?_, ?_⟩ (Heap.SameBut.update ..))
    · rw [stored, if_neg hany]
      have := hp.append hkey (knd.hash k) v
      obtain ⟨l⟩ := es
      simpa using this
    · rw [stored, if_neg hany, List.map_append, List.nodup_append]
      refine ⟨hn, by simp, ?_⟩
      intro a ha b hb
      simp only [List.map_cons, List.map_nil, List.mem_singleton] at hb
      subst hb
      exact fun e => hnot (e ▸ ha)
theorem mergeMapping_pairs {d o : Addr} {kvs more : List (K × Value)} {Q : Unit → Shared → Prop} (hdo : d ≠ o) (hoS : (o == sysModules) = false) (hd : s.heap.DictOf knd d kvs) (ho : s.heap.DictOf knd o more)
    (hQ : ∀ h', h'.DictOf knd d (merged kvs more) → h'.DictOf knd o more → Heap.SameBut d s.heap h' → Q () { s with heap := h' })
    (hsz : kvs.length + more.length ≤ sizeLine) : wpAny (model prog w) A (mergeMapping d (.ref o) false) Q E s := by
  obtain ⟨od, esd, epd, hod, hcd, hdd, hkd, hpd, hnd⟩ := id hd
  obtain ⟨oo, eso, epo, hoo, hco, hdo', hko, hpo, hno⟩ := id ho
  have hlen : more.length = eso.size := by rw [← hpo.length]; simp
  unfold mergeMapping
  refine wpAny_bind (wpAny_isInstance ho.typeIs isSubtype_dict_dict ?_)
  rw [if_pos rfl]
  refine wpAny_bind (wpAny_specialOf ho.typeIs F.slot_dict_iter.lookup ?_)
  refine wpAny_bind (wpAny_pure ?_)
  rw [show ((some (Value.builtin "dict.__iter__") : Option Value) == some (Value.builtin "dict.__iter__")) = true from beq_self_eq_true _]
  dsimp only
  rw [if_neg (by rw [hoS]; exact Bool.false_ne_true)]
  have loop : wpAny (model prog w) A (do
      let l ← dictEntries o
      let epoch ← dictEpoch o
      forIn (List.range l.size) PUnit.unit fun i (_ : PUnit) => (do
          let l' ← dictEntries o
          match l'[i]? with
            | some e => do
              holding [e.key, e.val] (dictPut d e.hash e.key e.val)
              let ep' ← dictEpoch o
              if (ep' != epoch) = true then do
                  (unsupported "dict.changed-during-merge" : Sem PUnit)
                  pure (ForInStep.yield PUnit.unit)
                else pure (ForInStep.yield PUnit.unit)
            | _ => do
              (unsupported "dict.changed-during-merge" : Sem PUnit)
              pure (ForInStep.yield PUnit.unit) : Sem (ForInStep PUnit))
      pure ()) Q E s := by
    refine wpAny_bind (wpAny_dictEntries hoo hdo' ?_)
    refine wpAny_bind (wpAny_dictEpoch hoo hdo' ?_)
    refine wpAny_bind ?_
    rw [List.range_eq_range']
    refine wpAny_forIn_list _
      (fun rest _ s' => ∃ h' i, s' = { s with heap := h' } ∧ rest = List.range' i (eso.size - i) ∧ i ≤ eso.size ∧ h'.DictOf knd d (merged kvs (more.take i)) ∧ h'.get? o = some oo ∧ Heap.SameBut d s.heap h')
      _ ?_ ?_ _ _ ⟨s.heap, 0, rfl, by simp, Nat.zero_le _, by simpa [merged] using hd, hoo, Heap.SameBut.refl _ _⟩
    · rintro x rest b s' ⟨h', i, rfl, hr, hi, hd', hoo', hs'⟩
      have hlt : i < eso.size := by
        rcases Nat.lt_or_ge i eso.size with h | h
        · exact h
        · rw [Nat.sub_eq_zero_of_le h] at hr; simp at hr
      obtain ⟨rfl, hrest⟩ : x = i ∧ rest = List.range' (i + 1) (eso.size - (i + 1)) := by
        have e : eso.size - i = (eso.size - (i + 1)) + 1 := by omega
        rw [e, List.range'_succ] at hr
        injection hr with h1 h2
        exact ⟨h1, h2⟩
      refine wpAny_bind (wpAny_dictEntries hoo' hdo' ?_)
      rw [Array.getElem?_eq_getElem hlt]
      obtain ⟨kv, hkv⟩ : ∃ kv, more[x]? = some kv := ⟨more[x]'(by rw [hlen]; exact hlt), List.getElem?_eq_getElem _⟩
      obtain ⟨k, v⟩ := kv
      obtain ⟨hkey, hval⟩ := hpo.get? (e := eso[x]) (by simp [hlt]) hkv
      obtain ⟨k', hkey', hhash⟩ := hko eso[x] (Array.getElem_mem hlt)
      obtain rfl : k' = k := knd.inj _ _ _ hkey' hkey
      show wpAny _ _ (holding [eso[x].key, eso[x].val] (dictPut d eso[x].hash eso[x].key eso[x].val) >>= _) _ _ _
      rw [hhash, hval]
      have hmx : (merged kvs (more.take x)).length ≤ sizeLine := by
        have e1 := merged_length_le kvs (more.take x)
        have e2 : (more.take x).length ≤ more.length := by rw [List.length_take]; omega
        omega
      refine wpAny_bind (wpAny_holding (dictPut_pairs hkey hd' (fun h'' hd'' hs'' => ?_) hmx))
      have hoo'' : h''.get? o = some oo := (hs''.2 o (Ne.symm hdo)).trans hoo'
      refine wpAny_bind (wpAny_dictEpoch hoo'' hdo' ?_)
      rw [if_neg (by simp)]
      exact wpAny_pure ⟨h'', x + 1, rfl, hrest, hlt, by rw [merged_take_succ kvs more x (k', v) hkv]; exact hd'', hoo'', hs'.trans hs''⟩
    · rintro b s' ⟨h', i, rfl, hr, hi, hd', hoo', hs'⟩
      have hin : i = eso.size := by
        rcases Nat.lt_or_ge i eso.size with h | h
        · have e : eso.size - i = (eso.size - (i + 1)) + 1 := by omega
          rw [e, List.range'_succ] at hr; exact nomatch hr
        · exact Nat.le_antisymm hi h
      refine wpAny_pure (hQ h' ?_ ⟨oo, eso, epo, hoo', hco, hdo', hko, hpo, hno⟩ hs')
      rw [hin, ← hlen, List.take_length] at hd'; exact hd'
  refine wpAny_bind (wpAny_dictEntries hod hdd ?_)
  split
  · refine wpAny_bind (wpAny_dictEntries hoo hdo' ?_)
    have hl : (forIn eso PUnit.unit fun e (_ : PUnit) => (match e.key with
        | Value.ref a => do
          let l ← specialOf e.key "__eq__"
          if (l != some (Value.builtin "object.__eq__")) = true then
              if (Array.filter (fun x => x.hash == e.hash) eso).size > 1 then do
                (unsupported "dict.merge-into-an-empty-dict:keys-of-equal-hash" : Sem PUnit)
                pure (ForInStep.yield PUnit.unit)
              else pure (ForInStep.yield PUnit.unit)
            else pure (ForInStep.yield PUnit.unit)
        | x => pure (ForInStep.yield PUnit.unit) : Sem (ForInStep PUnit))) = pure PUnit.unit := by
      rw [← Array.forIn_toList]
      refine forIn_yield_id _ fun e he c => ?_
      obtain ⟨k, hkey, _⟩ := hko e (Array.mem_toList_iff.mp he)
      have := knd.byValue k _ hkey
      cases hk : e.key with
      | ref a => rw [hk] at this; exact nomatch this
      | _ => rfl
    refine wpAny_bind (wpAny_of_eq hl ?_)
    exact loop
  · exact loop
end
end DL

namespace DL
open PySem PySem.Spec PyProof.Rows L2
section
variable {prog : Program} {w : World} {K : Type} [DecidableEq K] {knd : KeyKind prog w K} {A : Around} {E : Value → Shared → Prop} {s : Shared}
theorem forIn_gatherM (m : Option Addr) (f : (Option (Sem Value) × Sem Value) → (Option Addr × List (Sem Value × Sem Value)) → Sem (ForInStep (Option Addr × List (Sem Value × Sem Value))))
    (hf : ∀ (p : Sem Value × Sem Value) (run : List (Sem Value × Sem Value)), run.length + 1 < 17 → f (some p.1, p.2) (m, run) = pure (.yield (m, run ++ [p]))) :
    ∀ (items run : List (Sem Value × Sem Value)), run.length + items.length < 17 → forIn (items.map fun p => (some p.1, p.2)) (m, run) f = pure (m, run ++ items)
  | [], run, _ => by simp
  | p :: rest, run, h => by
    rw [List.map_cons, List.forIn_cons, hf p run (by simp at h; omega), pure_bind]
    have := forIn_gatherM m f hf rest (run ++ [p]) (by simp at h ⊢; omega)
    simpa using this
theorem wpAny_spread {v : Sem Value} {pairs : List (Sem Value × Sem Value)} {Q : Value → Shared → Prop} (h0 : pairs ≠ []) (hlen : pairs.length ≤ 15)
    (h : wpAny (model prog w) A v (fun u s1 => ∃ o more, u = .ref o ∧ s.heap.objs.size ≠ o ∧ (o == sysModules) = false ∧ s1.heap.DictOf knd o more ∧ s1.heap.DictOf knd s.heap.objs.size [] ∧ more.length ≤ 100 ∧
      ∀ h', h'.DictOf knd s.heap.objs.size more → Heap.SameBut s.heap.objs.size s1.heap h' → 
        wpAny (model prog w) A (evalPairs pairs) (fun vs s2 => ∃ kvs more, Carries knd vs kvs ∧ s2.heap.DictOf knd h'.objs.size [] ∧ s2.heap.DictOf knd s.heap.objs.size more ∧ more.length ≤ 100 ∧ s.heap.objs.size ≠ h'.objs.size ∧ (h'.objs.size == sysModules) = false ∧
          ∀ h2, h2.DictOf knd h'.objs.size (merged [] kvs) → Heap.SameBut h'.objs.size s2.heap h2 → ∀ h3, h3.DictOf knd s.heap.objs.size (merged more (merged [] kvs)) → Heap.SameBut s.heap.objs.size h2 h3 → Q (.ref s.heap.objs.size) { s2 with heap := h3, toks := s2.toks + vs.length }) E
          { s1 with heap := h'.push { cls := .type "dict", data := .dict #[] } }) E
      { s with heap := s.heap.push { cls := .type "dict", data := .dict #[] } }) :
    wpAny (model prog w) A (dictDisplay ((none, v) :: pairs.map fun p => (some p.1, p.2))) Q E s := by
  unfold dictDisplay
  dsimp only
  rw [List.forIn_cons]
  refine wpAny_bind (wpAny_bind ?_)
  simp only [List.isEmpty_nil, if_true, pure_bind]
  refine wpAny_bind (wpAny_alloc ?_)
  refine wpAny_bind (wpAny_holding (wpAny_mono h (fun u s1 hu => ?_) fun _ _ e => e))
  obtain ⟨o, more, rfl, ne, hS, ho, hd, hm, q⟩ := hu
  refine wpAny_bind (wpAny_onRaise (wpAny_tryCatch (wpAny_onRaise (wpAny_holding (mergeMapping_pairs ne hS hd ho (fun h' k1 k2 k3 => ?_) (by rw [sizeLine_eq, List.length_nil]; omega))))))
  have hno : (more.map (·.1)).Nodup := let ⟨_, _, _, _, _, _, _, _, hn⟩ := ho; hn
  rw [merged_nil_of_nodup more hno] at k1
  have q1 := q h' k1 k3
  refine wpAny_pure ?_
  dsimp only
  rw [forIn_gatherM _ _ (fun p run h => by
    have hne : ((run ++ [(p.1, p.2)]).length == 17) = false := by simp; omega
    simp only [hne, Bool.false_eq_true, if_false]) pairs [] (by rw [List.length_nil]; omega)]
  refine wpAny_pure ?_
  dsimp only
  rw [List.nil_append]
  have he : pairs.isEmpty = false := by cases pairs with
    | nil => exact absurd rfl h0
    | cons _ _ => rfl
  rw [he]
  rw [if_neg Bool.false_ne_true]
  refine wpAny_bind (wpAny_bind (wpAny_holding (wpAny_subDict (knd := knd) hlen (wpAny_mono (wpAny_evalPairs_len q1) (fun vs s2 hv => ?_) fun _ _ e => e))))
  obtain ⟨hvl, kvs, more2, c1, c2, c3, c100, c4, c5, c6⟩ := hv
  refine ⟨kvs, c1, c2, fun h2 e1 e2 => ?_⟩
  have c3' : h2.DictOf knd s.heap.objs.size more2 := c3.sameBut e2 c4
  have hl := c1.length
  have hv15 : kvs.length ≤ 15 := by omega
  refine wpAny_bind (wpAny_onRaise (wpAny_holding (mergeMapping_pairs c4 c5 c3' e1 (fun h3 g1 g2 g3 => ?_) ?_)))
  · exact wpAny_pure (wpAny_pure (c6 h2 e1 e2 h3 g1 g3))
  · have := merged_length_le ([] : List (K × Value)) kvs
    rw [sizeLine_eq]; rw [List.length_nil] at this; omega
end
def tSpread (tb : TE) (trs : List (TE × TE)) : TE := fun σ H Q => ∀ p, H p = none → tb σ (upd H p (.dK [])) fun x H1 => ∃ (a : Addr) (kvs : List (Key × V)), x = .ref a ∧ a ≠ p ∧ Rd H1 a (.dK kvs) ∧ H1 p = some (.dK []) ∧ kvs.length ≤ 100 ∧
  ∀ q, upd H1 p (.dK kvs) q = none → tPairs trs σ (upd (upd H1 p (.dK kvs)) q (.dK [])) fun ps H2 => H2 p = some (.dK kvs) ∧ H2 q = some (.dK []) ∧ ∃ more : List (Key × V), ps = more.map (fun kv => (kV kv.1, kv.2)) ∧ more.length ≤ 15 ∧
    Q (.ref p) (upd (upd H2 q (.dK (mergeK [] more))) p (.dK (mergeK kvs (mergeK [] more))))
theorem pe_spread {X : Cx} {pos : Pos} {b : Expr} {keys : List (Option Expr)} {values : List Expr} {tb : TE} {trs : List (TE × TE)} (hb : PE X b tb) (h : PPs X pos keys values trs) (hall : keys.all (·.isSome) = true) (hl : keys.length = values.length) (h0 : keys ≠ [])
    (h15 : keys.length ≤ 15) : PE X (.Dict (none :: keys) (b :: values) pos) (tSpread tb trs) := by
  refine ⟨fun pins s σ H Q I q => ?_⟩
  have hn := I.hok.fresh (Nat.le_refl s.heap.objs.size)
  have I1 := I.laid (a := s.heap.objs.size) (o := .dK []) (h' := s.heap.push { cls := .type "dict", data := .dict #[] }) (t' := s.toks) (fun _ _ q => Heap.get?_push_of_some _ q) (Nat.le_refl _) (dk_empty s.heap I.big)
  have hln := pairTrees_length keys values X.env pos hall hl
  rw [arm_eval_Dict]
  show wpAny _ _ (standAt pos >>= fun _ => dictDisplay ((none, do let x ← eval b X.env; standAt pos; pure x) :: (evalEachOpt keys X.env).zip ((evalEach values X.env).map fun v => do let x ← v; standAt pos; pure x))) _ _ s
  rw [zip_pairTrees keys values X.env pos hall hl]
  refine wpAny_bind (wpAny_standAt ?_)
  have hp0 : pairTrees keys values X.env pos ≠ [] := fun he => h0 (List.length_eq_zero_iff.mp (by rw [← hln, he]; rfl))
  refine wpAny_spread (knd := mixKind X.prog X.w) hp0 (by rw [hln]; exact h15) ?_
  refine wpAny_bind (thn (hb.run pins _ σ _ _ I1 (q _ hn)) fun u s1 ⟨x, H1, I2, rx, q1⟩ => wpAny_bind (wpAny_standAt (wpAny_pure ?_)))
  obtain ⟨a, kvs, rfl, na, rd, hp, l100, q1⟩ := q1
  cases rx
  obtain ⟨z, hd, vs, rel, dd⟩ := dk_rd I2.hok rd
  obtain ⟨z0, hd0, vs0, r0, dd0⟩ := dk_of I2.hok hp
  cases r0
  refine ⟨a, vs, rfl, fun e => na e.symm, hd, dd, dd0, by rw [← rel.length]; exact l100, fun h' d1 d2 => ?_⟩
  have hx : ∃ q, h'.get? s.heap.objs.size = some q := let ⟨q, _, _, hq, _⟩ := d1; ⟨q, hq⟩
  have I3 := d_write (t' := s1.toks) I2 (by rw [hp]; exact True.intro) d2 hx (dk_new z hd0 rel d1)
  have hq := I3.hok.fresh (Nat.le_refl h'.objs.size)
  have I4 := I3.laid (a := h'.objs.size) (o := .dK []) (h' := h'.push { cls := .type "dict", data := .dict #[] }) (t' := s1.toks) (fun _ _ q => Heap.get?_push_of_some _ q) (Nat.le_refl _) (dk_empty h' I3.big)
  refine thn (h.run pins _ σ _ _ I4 (q1 _ hq)) fun ws s2 ⟨ps, H2, I5, rw_, e1, e2, more, ep, lm, q2⟩ => ?_
  subst ep
  obtain ⟨rs, c, rk⟩ := carries_of (P := X.prog) (w := X.w) rw_
  obtain ⟨z5, hd5, vs5, r5, dd5⟩ := dk_of I5.hok e2
  cases r5
  obtain ⟨z6, hd6, vs6, r6, dd6⟩ := dk_of I5.hok e1
  have ne : s.heap.objs.size ≠ h'.objs.size := fun e => by
    rw [← e, upd_same] at hq; cases hq
  refine ⟨rs, vs6, c, dd5, dd6, by rw [← r6.length]; exact l100, ne, hd5, fun h2 f1 f2 h3 f3 f4 => ?_⟩
  have hz1 : (mergeK [] more).length ≤ sizeLine := by
    have h1 := length_mergeK more []
    rw [List.length_nil] at h1
    rw [sizeLine_eq]; omega
  have hz2 : (mergeK kvs (mergeK [] more)).length ≤ sizeLine := by
    have h1 := length_mergeK more []
    have h2 := length_mergeK (mergeK [] more) kvs
    rw [List.length_nil] at h1
    rw [sizeLine_eq]; omega
  have x2 : ∃ q, h2.get? h'.objs.size = some q := let ⟨q, _, _, hq, _⟩ := f1; ⟨q, hq⟩
  have I6 := d_write (t' := s2.toks + ws.length) I5 (by rw [e2]; exact True.intro) f2 x2 (dk_new hz1 hd5 (rk.merge .nil) f1)
  have x3 : ∃ q, h3.get? s.heap.objs.size = some q := let ⟨q, _, _, hq, _⟩ := f3; ⟨q, hq⟩
  have I7 := d_write (t' := s2.toks + ws.length) I6 (by rw [upd_ne ne, e1]; exact True.intro) f4 x3 (dk_new hz2 hd6 (KV.merge (rk.merge .nil) r6) f3)
  exact ⟨.ref s.heap.objs.size, _, I7, rfl, q2⟩
end DL

namespace DL
open PySem PySem.Spec PyProof.Rows L2
/-- whatever is known of an expression -/
def tU (X : Cx) (v : Expr) : TE := fun σ H Q => ∃ t, PE X v t ∧ t σ H Q
theorem pe_U {X : Cx} {v : Expr} : PE X v (tU X v) := ⟨fun pins s σ H Q I h => by
  obtain ⟨t, h1, h2⟩ := h
  exact h1.run pins s σ H Q I h2⟩
def uT (X : Cx) : List Str → List Expr → List (TE × TE)
  | y :: ks, v :: vs => (tC (.str y), tU X v) :: uT X ks vs
  | _, _ => []
/-- the pairs of a display: texts, and what stands at them -/
structure XPs (X : Cx) (C : CC) (W : WX) (pos : Pos) (keys : List (Option Expr)) (values : List Expr) (ks : List Str) (m : E (List D)) : Prop where
  pp : PPs X pos keys values (uT X ks values)
  den : Den C W (tPairs (uT X ks values)) m (fun _ F' _ (ps : List (V × V)) ds => ∃ vs, ps = (ks.map V.str).zip vs ∧ vs.length = ks.length ∧ C.RL F' vs ds)
section
variable {X : Cx} {C : CC} {W : WX} {pos pk : Pos} {keys : List (Option Expr)} {values : List Expr} {ks : List Str} {m : E D} {ms : E (List D)} {v b : Expr} {y : Str}
theorem xps_nil : XPs X C W pos [] [] [] (ep []) := ⟨pps_nil, fun σ ρ F H z Qd Xd Q S hm hq hx => hq _ _ _ _ _ _ hm S (Same.refl _) Keep.refl Ole.refl ⟨[], rfl, rfl, .nil⟩⟩
theorem xps_cons {jj} (h : XE X C W v m) (hs : XPs X C W pos keys values ks ms) : XPs X C W pos (some (.Constant (.str y) jj pk) :: keys) (v :: values) (y :: ks) (eb m fun d => eb ms fun ds => ep (d :: ds)) := by
  obtain ⟨t, h1, h2⟩ := h.ex
  obtain ⟨g1, g2⟩ := hs
  refine ⟨pps_cons pe_str pe_U g1, fun σ ρ F H z Qd Xd Q S hm hq hx => ?_⟩
  refine ⟨t, h1, h2 σ ρ F H z _ Xd _ S hm (fun d ρ1 z1 x F1 H1 q1 S1 ff1 k1 o1 r1 => ?_) hx⟩
  refine g2 σ ρ1 F1 H1 z1 _ Xd _ S1 q1 (fun ds ρ2 z2 ps F2 H2 q2 S2 ff2 k2 o2 r2 => ?_) (fun e ρ' z' cls dd F' H' q S' ff r => hx e ρ' z' cls dd F' H' q S' (ff1.trans ff) r)
  obtain ⟨vs, rfl, l, rr⟩ := r2
  exact hq _ _ _ _ _ _ q2 S2 (ff1.trans ff2) (k1.trans k2) (o2.trans o1) ⟨x :: vs, rfl, by simp [l], .cons (Rp.mono ff2 r1) rr⟩
end
def dputs : List Key → List D → List Key → List D → List Key × List D
  | js, es, k :: ks, d :: ds => dputs (dputL js es k d).1 (dputL js es k d).2 ks ds
  | js, es, _, _ => (js, es)
theorem puts_rel {K : PySem.W.Frag} {mg : Str → Option Value} {pa : Option Addr} {F : Hp} : ∀ {ks : List Key} {ds : List D} {vs : List V} {js : List Key} {es : List D} {xs : List V}, RpL K mg pa F vs ds → vs.length = ks.length → RpL K mg pa F xs es → js.length = xs.length →
    ∃ xs', mergeK (js.zip xs) (ks.zip vs) = (dputs js es ks ds).1.zip xs' ∧ (dputs js es ks ds).1.length = xs'.length ∧ RpL K mg pa F xs' (dputs js es ks ds).2
  | [], ds, vs, js, es, xs, h, l, r, lj => ⟨xs, by cases vs <;> first | rfl | (simp at l), lj, by cases ds <;> exact r⟩
  | k :: ks, ds, vs, js, es, xs, h, l, r, lj => by
    cases vs with
    | nil => simp at l
    | cons v vs =>
      cases h with
      | cons a b =>
        rename_i d ds
        obtain ⟨xs', e1, e2, e3⟩ := put_rel (k := k) r lj a
        obtain ⟨xs2, g1, g2, g3⟩ := puts_rel (ks := ks) b (by simpa using l) e3 e2
        refine ⟨xs2, ?_, g2, g3⟩
        show _ = (dputs (dputL js es k d).1 (dputL js es k d).2 ks ds).1.zip xs2
        rw [← g1, ← e1]
        rfl
theorem merge_nil {κ : Type} [DecidableEq κ] : ∀ (acc more : List (κ × V)), ((acc ++ more).map (·.1)).Nodup → more.foldl (fun acc kv => putK acc kv.1 kv.2) acc = acc ++ more
  | acc, [], _ => by simp
  | acc, p :: r, h => by
    have hf : ¬ (acc.any fun x => decide (x.1 = p.1)) = true := by
      rw [List.any_eq_true]; rintro ⟨x, hx, he⟩
      rw [List.map_append, List.map_cons, List.nodup_append] at h
      exact h.2.2 x.1 (List.mem_map.mpr ⟨x, hx, rfl⟩) p.1 List.mem_cons_self (of_decide_eq_true he)
    rw [List.foldl_cons]
    have e : putK acc p.1 p.2 = acc ++ [p] := by unfold putK; rw [if_neg hf]
    rw [e, merge_nil (acc ++ [p]) r (by simpa using h)]
    simp
def skeys (ks : List Str) : List Key := ks.map Sum.inr
theorem zip_kv {ks : List Str} {vs : List V} : (ks.map V.str).zip vs = ((skeys ks).zip vs).map fun kv => (kV kv.1, kv.2) := by
  unfold skeys
  rw [List.zip_map_left, List.zip_map_left, List.map_map]
  rfl
theorem merge_sk {ks : List Str} {vs : List V} (n : ks.Nodup) : mergeK [] ((skeys ks).zip vs) = (skeys ks).zip vs := by
  have h := merge_nil (κ := Key) [] ((skeys ks).zip vs) ?_
  · rw [List.nil_append] at h; exact h
  · rw [List.nil_append]
    have h1 : (((skeys ks).zip vs).map (·.1)).Sublist (skeys ks) := by
      generalize skeys ks = q
      induction q generalizing vs with
      | nil => simp
      | cons x r ih =>
        cases vs with
        | nil => simp
        | cons v vs => simpa using ih
    refine h1.nodup ?_
    unfold skeys
    exact n.map (f := Sum.inr) fun a b e q => e (Sum.inr.inj q)
def eDsp (ks : List Str) (ms : E (List D)) : E D := eb ms fun ds ρ Q _ z => Q (.dic (skeys ks) ds) ρ z
def fSpr (ks : List Str) (ms : E (List D)) : D → E D
  | .dic js es => fun ρ Q X z => js.length ≤ 100 ∧ ms ρ (fun ds ρ' z' => Q (.dic (dputs js es (skeys ks) ds).1 (dputs js es (skeys ks) ds).2) ρ' z') X z
  | _ => eStuck
def eSpr (mb : E D) (ks : List Str) (ms : E (List D)) : E D := eb mb (fSpr ks ms)
section
variable {X : Cx} {C : CC} {W : WX} {pos pk : Pos} {keys : List (Option Expr)} {values : List Expr} {ks : List Str} {k : Nat} {mb : E D} {ms : E (List D)} {v b : Expr}
theorem StOk.hideK {σ : L2.St} {ρ : Rho} {F H : Hp} {z : Zs} {p : Addr} (S : StOk C σ ρ F H z) (o : HO) (h : H p = none) : StOk (C.hide p) σ ρ F (upd H p o) z := by
  have S' := (S.hideN h).hidUpd (p := p) (o := o) List.mem_cons_self (S.h0None h (S.npa h))
  rw [upd_upd] at S'
  exact S'
/-- what was hidden is frozen -/
theorem StOk.show {σ : L2.St} {ρ ρ0 : Rho} {F H F0 H0 : Hp} {z z0 : Zs} {p : Addr} {o : HO} (S0 : StOk C σ ρ0 F0 H0 z0) (h0 : H0 p = none) (S : StOk (C.hide p) σ ρ F H z) (ol : Ole ρ ρ0) (n : NG o) : StOk C σ ρ (upd F p o) (upd H p o) z := by
  have f := (S.hd p List.mem_cons_self).1
  have np := S0.npa h0
  have n0 := S0.h0None h0 np
  exact ((S.hidUpd (o := o) List.mem_cons_self n0).unhide).freeze upd_same f n0 np (S0.notOwn h0 ol) (S0.notHid h0) n
theorem keep_show {pa : Option Addr} {F0 F H0 H : Hp} {p : Addr} {o u : HO} (k : Keep pa F0 F (upd H0 p o) H) (h0 : H0 p = none) (n : NG u) : Keep pa F0 (upd F p u) H0 (upd H p u) where
  ke := fun b w h n g => by
    have ne := ne_of_none h h0
    rw [upd_ne ne]
    exact k.ke b w (by rw [upd_ne ne]; exact h) n g
  gn := fun b j e => by
    have e' := gh_upd n e
    rcases k.gn b j e' with q | q
    · exact .inl q
    · by_cases q2 : b = p
      · rw [q2]; exact .inr h0
      · rw [upd_ne q2] at q; exact .inr q
  dm := fun b h => by
    by_cases q : b = p
    · rw [q, upd_same]; simp
    · rw [upd_ne q]; exact k.dm b (by rw [upd_ne q]; exact h)
theorem keep_spr {pa : Option Addr} {F0 F1 F2 H0 H1 H2 : Hp} {p q : Addr} {o1 o2 o3 w' u : HO} (k1 : Keep pa F0 F1 (upd H0 p o1) H1) (h0 : H0 p = none) (hq : upd H1 p o2 q = none) (k2 : Keep pa F1 F2 (upd (upd H1 p o2) q o3) H2) (n : NG u) : Keep pa F0 (upd F2 p u) H0 (upd (upd H2 q w') p u) where
  ke := fun b w h np g => by
    have ne := ne_of_none h h0
    have e1 := k1.ke b w (by rw [upd_ne ne]; exact h) np g
    have e1' : upd H1 p o2 b = some w := by rw [upd_ne ne]; exact e1
    have nq : b ≠ q := ne_of_none e1' hq
    have g1 : ∀ k, F1 b ≠ some (gh k) := fun k e => by
      rcases k1.gn b k e with r | r
      · exact g k r
      · rw [upd_ne ne, h] at r; cases r
    rw [upd_ne ne, upd_ne nq]
    exact k2.ke b w (by rw [upd_ne nq]; exact e1') np g1
  gn := fun b j e => by
    have e' := gh_upd n e
    by_cases q2 : b = p
    · rw [q2]; exact .inr h0
    rcases k2.gn b j e' with r | r
    · rcases k1.gn b j r with r | r
      · exact .inl r
      · rw [upd_ne q2] at r; exact .inr r
    · by_cases q3 : b = q
      · rw [q3, upd_same] at r; cases r
      · rw [upd_ne q3, upd_ne q2] at r
        refine .inr ?_
        cases e0 : H0 b with
        | none => rfl
        | some w => exact absurd r (k1.dm b (by rw [upd_ne q2, e0]; simp))
  dm := fun b h => by
    by_cases q2 : b = p
    · rw [q2, upd_same]; simp
    · rw [upd_ne q2]
      by_cases q3 : b = q
      · rw [q3, upd_same]; simp
      · rw [upd_ne q3]
        refine k2.dm b ?_
        rw [upd_ne q3, upd_ne q2]
        exact k1.dm b (by rw [upd_ne q2]; exact h)
theorem xe_dsp (kx : Kx X C W k) (h : ∀ D, Kx X (C.hide D) W k → XPs X (C.hide D) W pos keys values ks ms) (hn : ks.Nodup) (h15 : ks.length ≤ 15) (hall : keys.all (·.isSome) = true := by rfl) (hl : keys.length = values.length := by rfl) (h0 : keys ≠ [] := by simp) (h15' : keys.length ≤ 15 := by decide) :
    XE X C W (.Dict keys values pos) (eDsp ks ms) := by
  refine ⟨_, pe_disp (h 0 (kx_hide kx)).pp hall hl h0 h15', fun σ ρ F H z Qd Xd Q S hm hq hx => fun p hp => ?_⟩
  refine (h p (kx_hide kx)).den σ ρ F _ z _ Xd _ (S.hideK (.dK []) hp) hm (fun ds ρ1 z1 ps F1 H1 q1 S1 ff1 k1 o1 r1 => ?_) (fun e ρ' z' cls dd F' H' q S' ff r => hx e ρ' z' cls dd F' H' q S'.unhide ff r)
  obtain ⟨vs, rfl, l, rr⟩ := r1
  have hf := (S1.hd p List.mem_cons_self).1
  have hp1 : H1 p = some (.dK []) := k1.ke p _ upd_same (S.npa hp) (nog (S.free hp))
  refine ⟨hp1, (skeys ks).zip vs, zip_kv, by rw [List.length_zip]; unfold skeys; rw [List.length_map]; omega, ?_⟩
  rw [merge_sk hn]
  exact hq _ _ _ _ _ _ q1 (S.show hp S1 o1 ngD) (ff1.trans (Same.new hf)) (keep_show k1 hp ngD) o1 (.dic (.inl upd_same) (by unfold skeys; rw [List.length_map, l]) (RpL.mono (Same.new hf) rr))
theorem xe_spr (kx : Kx X C W k) (hb : ∀ D, Kx X (C.hide D) W k → XE X (C.hide D) W b mb) (h : ∀ D G, Kx X ((C.hide D).hide G) W k → XPs X ((C.hide D).hide G) W pos keys values ks ms) (hn : ks.Nodup) (h15 : ks.length ≤ 15) (hall : keys.all (·.isSome) = true := by rfl) (hl : keys.length = values.length := by rfl) (h0 : keys ≠ [] := by simp) (h15' : keys.length ≤ 15 := by decide) :
    XE X C W (.Dict (none :: keys) (b :: values) pos) (eSpr mb ks ms) := by
  refine ⟨_, pe_spread (pe_U (v := b)) (h 0 0 (kx_hide (kx_hide kx))).pp hall hl h0 h15', fun σ ρ F H z Qd Xd Q S hm hq hx => fun p hp => ?_⟩
  obtain ⟨tb, b1, b2⟩ := (hb p (kx_hide kx)).ex
  refine ⟨tb, b1, b2 σ ρ F _ z _ Xd _ (S.hideK (.dK []) hp) hm (fun d ρ1 z1 x F1 H1 q1 S1 ff1 k1 o1 r1 => ?_) (fun e ρ' z' cls dd F' H' q S' ff r => hx e ρ' z' cls dd F' H' q S'.unhide ff r)⟩
  cases d with
  | dic js es =>
    obtain ⟨l100, q1⟩ := q1
    cases r1 with
    | @dic a _ xs _ rd lj rx =>
      have hf := (S1.hd p List.mem_cons_self).1
      have npa := S.npa hp
      have n0 := S.h0None hp npa
      have hp1 : H1 p = some (.dK []) := k1.ke p _ upd_same npa (nog (S.free hp))
      have na : a ≠ p := fun e => by
        rw [e] at rd
        rcases rd with rd | ⟨o, rd⟩ <;> (rw [hf] at rd; cases rd)
      refine ⟨a, js.zip xs, rfl, na, rdSub S1.sub rd ngD, hp1, by rw [List.length_zip]; omega, fun q hq0 => ?_⟩
      have S2 := S1.hidUpd (o := .dK (js.zip xs)) List.mem_cons_self n0
      have np1 := S2.npa hq0
      have ne : q ≠ p := fun e => by rw [e, upd_same] at hq0; cases hq0
      refine (h p q (kx_hide (kx_hide kx))).den σ ρ1 F1 _ z1 _ Xd _ (S2.hideK (.dK []) hq0) q1 (fun ds ρ2 z2 ps F2 H2 q2 S3 ff2 k2 o2 r2 => ?_) (fun e ρ' z' cls dd F' H' q S' ff r => hx e ρ' z' cls dd F' H' q S'.unhide.unhide (ff1.trans ff) r)
      obtain ⟨vs, rfl, l, rr⟩ := r2
      have hq2 : H2 q = some (.dK []) := k2.ke q _ upd_same np1 (nog (S2.free hq0))
      have hp2 : H2 p = some (.dK (js.zip xs)) := k2.ke p _ (by rw [upd_ne (Ne.symm ne)]; exact upd_same) npa (nog hf)
      refine ⟨hp2, hq2, (skeys ks).zip vs, zip_kv, by rw [List.length_zip]; unfold skeys; rw [List.length_map]; omega, ?_⟩
      rw [merge_sk hn]
      have rx2 := RpL.mono ff2 rx
      obtain ⟨xs', e1, e2, e3⟩ := puts_rel (ks := skeys ks) rr (by unfold skeys; rw [List.length_map]; exact l) rx2 lj
      rw [e1]
      have S4 := (S3.hidUpd (o := .dK ((skeys ks).zip vs)) List.mem_cons_self (S2.h0None hq0 np1)).unhide
      have hf4 := (S4.hd p List.mem_cons_self).1
      exact hq _ _ _ _ _ _ q2 (S.show hp S4 (o2.trans o1) ngD) ((ff1.trans ff2).trans (Same.new hf4)) (keep_spr k1 hp hq0 k2 ngD) (o2.trans o1) (.dic (.inl upd_same) e2 (RpL.mono (Same.new hf4) e3))
  | _ => exact False.elim q1
end
end DL

namespace DL
open PySem PySem.Spec PyProof.Rows L2
/-! ## x.extend(l) of an own list -/
def sExt (i : Nat) (m : E D) : E Fl := fun ρ Q X z => match ρ[i]? with
  | some (.own _) => m ρ (fun y ρ' z' => match y, ρ'[i]? with
    | .lst es, some (.own ds) => ds.length + es.length ≤ 16777216 ∧ Q .nx (ρ'.set i (.own (ds ++ es))) z'
    | _, _ => False) X z
  | _ => False
section
variable {X : Cx} {C : CC} {W : WX} {e a b : Expr} {m ma mb : E D} {pos p p1 p2 p3 : Pos} {k : Nat} {x : Str}
theorem xs_ext (i : Nat) (kx : Kx X C W k) (hv : PE X (.Name x p) (tVar i)) (ha : XP X C W e m) (h1 : S1 X e := by rfl)
    (hbase : attributeBase (.Name x p) "extend" X.env (eval (.Name x p) X.env) = eval (.Name x p) X.env := by rfl)
    (hfew : ((backTo p2 (starEach (e :: []) X.env)).all (fun x => !x.1) && (backToKw p2 (keywordEach [] X.env)).all (fun x => x.1.isSome)
      && decide ((e :: ([] : List Expr)).length + ([] : List Keyword).length + (if ([] : List Keyword).isEmpty then 0 else 1) < 30)) = true := by rfl)
    (hline : (p1.endLine == p2.line) = true := by rfl) (hs : swapsWith (.Call (.Attribute (.Name x p) "extend" p1) [e] [] p2) none p3.line X.env = pure false := by rfl) :
    XS X C W (.Expr (.Call (.Attribute (.Name x p) "extend" p1) [e] [] p2) p3) (sExt i m) := by
  obtain ⟨t, t1, t2⟩ := ha.ex
  refine ⟨_, ps_expr (pe_bm PySem.F.plainAttrs_list F.slot_list_extend F.type_list_extend mt_extend hv (pa1 t1 h1) hbase hfew hline h1 rfl) hs, fun σ ρ F H z Qd Xd Dn S hm hq hx => ?_⟩
  unfold sExt at hm
  cases e0 : ρ[i]? with
  | none => rw [e0] at hm; exact hm.elim
  | some s =>
    rw [e0] at hm
    obtain ⟨v, e1, r⟩ := st_get S e0
    cases s with
    | no => exact hm.elim
    | fr d => exact hm.elim
    | own ds0 =>
      cases v with
      | none => exact r.elim
      | some v =>
        obtain ⟨l, xs, rfl, ha0, hf, h0, np, rr, nh⟩ := r
        refine ⟨_, e1, .inl ⟨rfl, xs, .inl (.inl ha0)⟩, ?_⟩
        refine t2 σ ρ F H z _ Xd (fun y H1 => rExtend (.ref l) [y] H1 fun _ H2 => Dn.nx σ H2) S hm (fun d ρ1 z1 v F1 H1 q1 S1 ff1 k1 o1 r1 => ?_) (fun e ρ' z' cls dd F' H' q S' ff r => hx e ρ' z' cls dd σ F' H' q S' ff r)
        cases d with
        | lst es =>
          cases e2 : ρ1[i]? with
          | none => rw [e2] at q1; exact q1.elim
          | some s =>
            rw [e2] at q1
            cases s with
            | no => exact q1.elim
            | fr d => exact q1.elim
            | own ds =>
              obtain ⟨l', ys, el, hl, _, _, _, r2, _⟩ := S1.env i _ _ e1 e2
              cases el
              obtain ⟨bb, zs, rfl, hb, rz, _⟩ := RT.lst S1.sub r1.now
              refine ⟨l, bb, ys, zs, rfl, rfl, hl, hb, by rw [RpL.length r2, RpL.length rz, sizeLine_eq]; exact q1.1, ?_⟩
              exact hq .nx _ z1 F1 _ q1.2 ff1 σ (S1.mut e2 e1 (RpL.append r2 rz))
        | _ => exact False.elim q1
end
@[simp] theorem sExt_a (i : Nat) (m : E D) (t : Sl) (ρ : Rho) (Q : Fl → Rho → Zs → Prop) (X : Er → Rho → Zs → Prop) (z : Zs) : sExt i m (t :: ρ) Q X z = (match (t :: ρ)[i]? with
  | some (.own _) => m (t :: ρ) (fun y ρ' z' => match y, ρ'[i]? with
    | .lst es, some (.own ds) => ds.length + es.length ≤ 16777216 ∧ Q .nx (ρ'.set i (.own (ds ++ es))) z'
    | _, _ => False) X z
  | _ => False) := propext Iff.rfl

/-! ## x.pop() of an own list, within an expression that begins with it -/
def DenW {α β : Type} (C : CC) (W : WX) (t : L2.St → Hp → (β → Hp → Prop) → Prop) (m : E α) (R : Hp → Hp → Hp → β → α → Prop) : Prop :=
  ∀ (σ : L2.St) (ρ : Rho) (F H : Hp) (z : Zs) (Qd : α → Rho → Zs → Prop) (Xd : Er → Rho → Zs → Prop) (Q : β → Hp → Prop), StOk C σ ρ F H z → m ρ Qd Xd z →
    (∀ a ρ' z' b F' H', Qd a ρ' z' → StOk C σ ρ' F' H' z' → Same F F' → R H F' H' b a → Q b H') →
    (∀ e ρ' z' cls dd F' H', Xd e ρ' z' → StOk C σ ρ' F' H' z' → Same F F' → ExR C F' H' e cls dd → W cls dd σ H') → t σ H Q
structure XEW (X : Cx) (C : CC) (W : WX) (e : Expr) (m : E D) : Prop where
  ex : ∃ t, PE X e t ∧ DenW C W t m (kR C)
def ePopI (i : Nat) : E D := fun ρ Q _ z => match ρ[i]? with
  | some (.own ds) => ∃ d, ds.getLast? = some d ∧ Q d (ρ.set i (.own ds.dropLast)) z
  | _ => False
section
variable {X : Cx} {C : CC} {W : WX} {e a b : Expr} {es : List Expr} {m ma mb : E D} {pos p p1 p2 p3 : Pos} {k : Nat} {x : Str}
theorem xw_pop (i : Nat) (hv : PE X (.Name x p) (tVar i)) (hbase : attributeBase (.Name x p) "pop" X.env (eval (.Name x p) X.env) = eval (.Name x p) X.env := by rfl) (hline : (p1.endLine == p2.line) = true := by rfl) :
    XEW X C W (.Call (.Attribute (.Name x p) "pop" p1) [] [] p2) (ePopI i) := by
  refine ⟨_, pe_bm0 PySem.F.plainAttrs_list F.slot_list_pop F.type_list_pop mt_pop hv hbase hline, fun σ ρ F H z Qd Xd Q S hm' hq hx => ?_⟩
  unfold ePopI at hm'
  cases e0 : ρ[i]? with
  | none => rw [e0] at hm'; exact hm'.elim
  | some s =>
    rw [e0] at hm'
    obtain ⟨v, e1, r⟩ := st_get S e0
    cases s with
    | no => exact hm'.elim
    | fr d => exact hm'.elim
    | own ds0 =>
      cases v with
      | none => exact r.elim
      | some v =>
        obtain ⟨d, hd, hm'⟩ := hm'
        obtain ⟨l, xs, rfl, ha0, hf0, h0, np, rr, nh⟩ := r
        have l1 := RpL.length rr
        have ne : ds0 ≠ [] := fun e => by rw [e] at hd; simp at hd
        have l0 : 0 < ds0.length := List.length_pos_iff.mpr ne
        have l2 : xs.length - 1 < xs.length := by omega
        refine ⟨_, e1, .inl ⟨rfl, xs, .inl (.inl ha0)⟩, l, xs, xs[xs.length - 1], rfl, rfl, ha0, List.getElem?_eq_getElem l2, ?_⟩
        have hd2 : ds0[xs.length - 1]? = some d := by rw [l1, ← hd, List.getLast?_eq_getElem?]
        obtain ⟨d', hd', rd⟩ := RpL.getV rr (List.getElem?_eq_getElem l2)
        rw [hd2] at hd'
        cases hd'
        refine hq _ _ z _ F _ hm' (S.mut e0 e1 ?_) (Same.refl F) rd
        rw [List.dropLast_eq_take, List.dropLast_eq_take, l1]
        exact RpL.take _ rr
theorem denW_op {ta tb : TE} {r : R2} {f : D → D → E D} (ha : DenW C W ta ma (kR C)) (hb : Den C W tb mb (kT C)) (ho : Op2 C W r f (kR C)) :
    DenW C W (tOp r ta tb) (eb ma fun x => eb mb fun y => f x y) (kR C) := fun σ ρ F H z Qd Xd Q S hm hq hx =>
  ha σ ρ F H z _ Xd _ S hm (fun x ρ1 z1 v F1 H1 q1 S1 ff1 r1 =>
    hb σ ρ1 F1 H1 z1 _ Xd _ S1 q1 (fun d ρ2 z2 y F2 H2 q2 S2 ff2 k2 o2 rb => ho σ ρ2 F2 H2 z2 v y x d Qd Xd Q S2 (.inl (Rp.mono ff2 r1)) rb.now q2
        (fun c ρ' z' d' F' H' q' S' ff' k' o' r' => hq c ρ' z' d' F' H' q' S' ((ff1.trans ff2).trans ff') r')
        (fun e ρ' z' cls dd F' H' q' S' ff' r' => hx e ρ' z' cls dd F' H' q' S' ((ff1.trans ff2).trans ff') r'))
      (fun e ρ' z' cls dd F' H' q' S' ff' r' => hx e ρ' z' cls dd F' H' q' S' (ff1.trans ff') r'))
    hx
theorem xw_ix (hK : X.K = C.K) (ha : XEW X C W a ma) (hb : XP X C W b mb) (hs : PlainIx b) : XEW X C W (.Subscript a b pos) (eb ma fun x => eb mb fun y => eP (dIx x y)) := by
  obtain ⟨ta, a1, a2⟩ := ha.ex
  obtain ⟨tb, b1, b2⟩ := hb.ex
  refine ⟨_, pe_ix ix_seq a1 b1 hs, ?_⟩
  rw [hK]
  exact denW_op a2 b2 o_ix
theorem xw_op {op : Operator} {r : R2} {f : D → D → E D} (h : OpR X (binaryOp op) r) (ho : Op2 C W r f (kR C)) (ha : XEW X C W a ma) (hb : XP X C W b mb) : XEW X C W (.BinOp a op b pos) (eb ma fun x => eb mb fun y => f x y) := by
  obtain ⟨ta, a1, a2⟩ := ha.ex
  obtain ⟨tb, b1, b2⟩ := hb.ex
  exact ⟨_, pe_op h a1 b1, denW_op a2 b2 ho⟩
theorem xs_setW (i : Nat) {x : Str} {pos' : Pos} (h : XEW X C W e m) (hN : X.N.Nodup) (hi : X.N[i]? = some x) (hx : Loc X.env.scope x) (hs : swapsWith e (some (.Name x pos')) pos.line X.env = pure false := by rfl)
    (hf : X.fn x = true ∨ X.env.scope.names.lookup x = some .local := by first | exact .inl rfl | exact .inr rfl | assumption) : XS X C W (.Assign [.Name x pos'] e pos) (sAsg m (gN i)) := by
  obtain ⟨t, a1, a2⟩ := h.ex
  refine ⟨_, ps_set hN hi hx a1 hs hf, fun σ ρ F H z Qd Xd Dn S hm hq hx => ?_⟩
  refine a2 σ ρ F H z _ Xd (fun x H1 => gName i x σ H1 Dn.nx) S hm (fun d ρ1 z1 v F1 H1 q1 S1 ff1 r1 => ?_) (fun e ρ' z' cls dd F' H' q S' ff r => hx e ρ' z' cls dd σ F' H' q S' ff r)
  exact den_gN i σ ρ1 F1 H1 z1 v d _ _ S1 r1 q1 fun σ' ρ' q' S' _ _ => hq .nx ρ' z1 F1 H1 q' ff1 σ' S'
theorem xw_slice {lo hi : Option Expr} {ml mh : E (Option Int)} (hK : X.K = C.K) (he : XEW X C W e m) (hl : XPart X C W lo ml) (hh : XPart X C W hi mh) : XEW X C W (.Subscript e (.Slice lo hi none p2) pos) (eb m fun d => eb ml fun lo => eb mh fun hi => fSlE d lo hi) := by
  obtain ⟨t, a1, a2⟩ := he.ex
  obtain ⟨tl, b1, b2⟩ := hl.ex
  obtain ⟨th, c1, c2⟩ := hh.ex
  refine ⟨_, pe_slice (sl_tupA.or C8.sl_txt) a1 b1 c1, ?_⟩
  rw [hK]
  intro σ ρ F H z Qd Xd Q S hm hq hx
  refine a2 σ ρ F H z _ Xd _ S hm (fun d ρ1 z1 x F1 H1 q1 S1 ff1 rx => ?_) hx
  refine b2 σ ρ1 F1 H1 z1 _ Xd _ S1 q1 (fun l ρ2 z2 l' F2 H2 q2 S2 ff2 k2 o2 el => ?_) (fun e ρ' z' cls dd F' H' q' S' ff' r' => hx e ρ' z' cls dd F' H' q' S' (ff1.trans ff') r')
  subst el
  refine c2 σ ρ2 F2 H2 z2 _ Xd _ S2 q2 (fun u ρ3 z3 u' F3 H3 q3 S3 ff3 k3 o3 eu => ?_) (fun e ρ' z' cls dd F' H' q' S' ff' r' => hx e ρ' z' cls dd F' H' q' S' (ff1.trans (ff2.trans ff')) r')
  subst eu
  exact o_slE _ _ σ ρ3 F3 H3 z3 x d Qd Xd Q S3 (.inl (Rp.mono (ff2.trans ff3) rx)) q3
    (fun c ρ' z' d' F' H' q' S' ff' k' o' r' => hq c ρ' z' d' F' H' q' S' (ff1.trans (ff2.trans (ff3.trans ff'))) r')
    (fun e ρ' z' cls dd F' H' q' S' ff' r' => hx e ρ' z' cls dd F' H' q' S' (ff1.trans (ff2.trans (ff3.trans ff'))) r')
theorem xw_tup {ms : E (List D)} {x1} (he : XEW X C W e m) (hs : XA X C W es ms) (hp : starEach (e :: es) X.env = (false, eval e X.env) :: starEach es X.env := by rfl) : XEW X C W (.Tuple (e :: es) x1 pos) (eTup (eb m fun d => eb ms fun ds => ep (d :: ds))) := by
  obtain ⟨t, a1, a2⟩ := he.ex
  obtain ⟨ts, g1, g2⟩ := hs.ex
  refine ⟨tTup (tCons t ts), pe_tup (pa_cons a1 g1 hp), fun σ ρ F H z Qd Xd Q S hm hq hx => ?_⟩
  refine a2 σ ρ F H z _ Xd _ S hm (fun d ρ1 z1 x F1 H1 q1 S1 ff1 r1 => ?_) hx
  refine g2 σ ρ1 F1 H1 z1 _ Xd _ S1 q1 (fun ds ρ2 z2 xs F2 H2 q2 S2 ff2 k2 o2 r2 => ?_) (fun e ρ' z' cls dd F' H' q' S' ff' r' => hx e ρ' z' cls dd F' H' q' S' (ff1.trans ff') r')
  obtain ⟨l, q2⟩ := q2
  refine ⟨line_le (by rw [RpL.length (RpL.cons (Rp.mono ff2 r1) r2)]; exact l), fun p hp => ?_⟩
  exact S2.newT hp (.cons (Rp.mono ff2 r1) r2) q2 fun c ρ' z' d' F' H' q' S' ff' k' o' r' => hq c ρ' z' d' F' H' q' S' ((ff1.trans ff2).trans ff') r'
end
@[simp] theorem ePopI_a (i : Nat) (t : Sl) (ρ : Rho) (Q : D → Rho → Zs → Prop) (X : Er → Rho → Zs → Prop) (z : Zs) : ePopI i (t :: ρ) Q X z = (match (t :: ρ)[i]? with
  | some (.own ds) => ∃ d, ds.getLast? = some d ∧ Q d ((t :: ρ).set i (.own ds.dropLast)) z
  | _ => False) := propext Iff.rfl
/-! ## l[::s], s one or less one -/
theorem pick_one (items : Array Value) : slicePick items none none (some 1) = items.toList.toArray := by
  unfold slicePick
  have hb : sliceBounds none none (some 1) items.size = (0, (items.size : Int), 1) := by
    first
    | rfl
    | simp [sliceBounds]
  rw [hb]
  show ((sliceRange 0 (items.size : Int) 1).filterMap (items[·]?)).toArray = _
  have hr : sliceRange 0 (items.size : Int) 1 = List.range items.size := by
    unfold sliceRange
    by_cases h : (0 : Int) < items.size
    · have h' : 0 < items.size := by omega
      simp [h']
    · have e : items.size = 0 := by omega
      rw [e]; simp
  rw [hr, PySem.W.krv_all]
def tStepL (K : PySem.W.Frag) (te : TE) (ts : TO) : TE := fun σ H Q => te σ H fun x H1 => ts σ H1 fun o H2 => ∃ a xs, x = .ref a ∧ SqL K H2 a xs ∧ ((o = some 1 ∧ ∀ p, H2 p = none → Q (.ref p) (upd H2 p (.lst xs))) ∨ (o = some (-1) ∧ ∀ p, H2 p = none → Q (.ref p) (upd H2 p (.lst xs.reverse))))
theorem pe_stepL {X : Cx} {e st : Expr} {te : TE} {ts : TO} {p3 pos : Pos} (he : PE X e te) (hst : PO X (some st) ts)
    (hsub : ∀ a b : Addr, subscripted (.Slice none none (some st) p3) false (.ref a) (.ref b) = operate [.ref a, .ref b] (getItem (.ref a) (.ref b)) := by intro _ _; with_unfolding_all rfl)
    (hlt : ∀ v r, letTemporaryGo e v r = pure () := by intro _ _; rfl) :
    PE X (.Subscript e (.Slice none none (some st) p3) pos) (tStepL X.K te ts) := by
  refine ⟨fun pins s σ H Q I h => ?_⟩
  refine Subscript_ (thn (he.run pins s σ H _ I h) fun v s1 ⟨x, H1, I1, r1, q1⟩ => ?_)
  refine wpAny_Slice (thn (po_none.run pins s1 σ H1 (fun o H2 => o = none ∧ H2 = H1) I1 ⟨rfl, rfl⟩) fun vl s2 ⟨l, H2, I2, pl, el, e2⟩ => ?_)
  subst el e2
  refine thn (po_none.run pins s2 σ H2 (fun o H3 => o = none ∧ H3 = H2) I2 ⟨rfl, rfl⟩) fun vu s3 ⟨u, H3, I3, pu, eu, e3⟩ => ?_
  subst eu e3
  refine thn (hst.run pins s3 σ H3 _ I3 q1) fun vs s4 ⟨o, H4, I4, ps, a, xs, ex, hx, q⟩ => ?_
  subst ex
  cases r1
  have I5 : Inv X pins σ H4 { s4 with heap := s4.heap.push { cls := .type "slice", data := .fields #[vl, vu, vs] } } := I4.kept (t' := s4.toks) fun b ob q => Heap.get?_push_of_some _ q
  obtain ⟨its, r, ht, hz⟩ := I5.list hx
  have hlen := r.length
  show wpAny (model X.prog X.w) X.A (subscriptTail e (.Slice none none (some st) p3) (.ref a) (.ref s4.heap.objs.size)) (EP X pins σ Q) X.xe { s4 with heap := s4.heap.push { cls := .type "slice", data := .fields #[vl, vu, vs] } }
  refine tail_any (ops := [.ref a, .ref s4.heap.objs.size]) ht.isList.typeIs (PySem.slot_list_getitem.lookup) ?_ (hsub _ _)
  rcases q with ⟨eo, q⟩ | ⟨eo, q⟩
  · subst eo
    refine wpAny_getItem_list_slice ht.isList (Heap.IsSliceOf.new _ vl vu vs) pl pu ps (by decide) ?_ (by rw [List.size_toArray]; omega)
    rw [pick_one]
    refine ⟨.ref _, _, I5.laid (t' := s4.toks) (o := .lst xs) (fun b ob q => Heap.get?_push_of_some _ q) (Nat.le_refl _) ?_, rfl, q _ (I5.hok.fresh (Nat.le_refl _))⟩
    exact ⟨hz, _, 0, r, Heap.get?_push_size _ rfl⟩
  · subst eo
    refine wpAny_getItem_list_slice ht.isList (Heap.IsSliceOf.new _ vl vu vs) pl pu ps (by decide) ?_ (by rw [List.size_toArray]; omega)
    rw [PySem.W.krv_pick]
    refine ⟨.ref _, _, I5.laid (t' := s4.toks) (o := .lst xs.reverse) (fun b ob q => Heap.get?_push_of_some _ q) (Nat.le_refl _) ?_, rfl, q _ (I5.hok.fresh (Nat.le_refl _))⟩
    exact ⟨by rw [List.length_reverse]; exact hz, _, 0, r.reverse, Heap.get?_push_size _ rfl⟩
def fStep : D → D → E (List D)
  | .lst ds, .int i => fun ρ Q _ z => if i = 1 then Q ds ρ z else if i = -1 then Q ds.reverse ρ z else False
  | _, _ => eStuck
section
variable {X : Cx} {C : CC} {W : WX} {e st : Expr} {m ms : E D} {p3 pos : Pos}
theorem xo_step (hK : X.K = C.K) (he : XP X C W e m) (hs : XP X C W st ms) (hsub : ∀ a b : Addr, subscripted (.Slice none none (some st) p3) false (.ref a) (.ref b) = operate [.ref a, .ref b] (getItem (.ref a) (.ref b)) := by intro _ _; with_unfolding_all rfl)
    (hlt : ∀ v r, letTemporaryGo e v r = pure () := by intro _ _; rfl) : XO X C W (.Subscript e (.Slice none none (some st) p3) pos) (eb m fun d => eb ms fun s => fStep d s) := by
  obtain ⟨t, a1, a2⟩ := he.ex
  obtain ⟨ts, b1, b2⟩ := hs.ex
  refine ⟨_, pe_stepL a1 (po_some b1) hsub hlt, fun σ ρ F H z Qd Xd Q S hm hq hx => ?_⟩
  refine a2 σ ρ F H z _ Xd _ S hm (fun d ρ1 z1 x F1 H1 q1 S1 ff1 k1 o1 r1 => ?_) hx
  refine b2 σ ρ1 F1 H1 z1 _ Xd _ S1 q1 (fun s ρ2 z2 v F2 H2 q2 S2 ff2 k2 o2 r2 => ?_) (fun e ρ' z' cls dd F' H' q' S' ff' r' => hx e ρ' z' cls dd F' H' q' S' (ff1.trans ff') r')
  cases d with
  | lst ds =>
    cases s with
    | int i =>
      obtain rfl := r2.now.int
      obtain ⟨a, xs, rfl, ha, rr, np⟩ := RT.lst S2.sub (r1.keep ff2 k2).now
      have fin : ∀ ys es, Qd es ρ2 z2 → C.RL F2 ys es → ∀ p, H2 p = none → Q (.ref p) (upd H2 p (.lst ys)) := fun ys es he hr p hp => S2.newL hp hr he fun c ρ' z' d' F' H' q' S' ff' k' o' r' => by
        refine hq c ρ' z' d' F' H' q' S' ((ff1.trans ff2).trans ff') ((k1.trans k2).trans k') ((o'.trans o2).trans o1) (back_O _ _ _ _ _ _ (k1.trans k2).dm r')
      by_cases e1 : i = 1
      · have q2 : Qd ds ρ2 z2 := by
          have := q2
          simp only [fStep] at this
          rwa [if_pos e1] at this
        exact ⟨i, rfl, a, xs, rfl, by rw [hK]; exact .inl (.inl ha), .inl ⟨by rw [e1], fin xs ds q2 rr⟩⟩
      · by_cases e2 : i = -1
        · have q2 : Qd ds.reverse ρ2 z2 := by
            have := q2
            simp only [fStep] at this
            rw [if_neg e1] at this
            rwa [if_pos e2] at this
          exact ⟨i, rfl, a, xs, rfl, by rw [hK]; exact .inl (.inl ha), .inr ⟨by rw [e2], fin xs.reverse ds.reverse q2 (RpL.revD rr)⟩⟩
        · have := q2
          simp only [fStep] at this
          rw [if_neg e1, if_neg e2] at this
          exact this.elim
    | _ => exact False.elim q2
  | _ => exact False.elim q2
end
@[simp] theorem fStep_a (ds : List D) (i : Int) (ρ : Rho) (Q : List D → Rho → Zs → Prop) (X : Er → Rho → Zs → Prop) (z : Zs) : fStep (.lst ds) (.int i) ρ Q X z = (if i = 1 then Q ds ρ z else if i = -1 then Q ds.reverse ρ z else False) := propext Iff.rfl
end DL

namespace DL
open PySem PySem.Spec PyProof.Rows L2
/-! ## a, b, c = [..], [..], x and a, b, c = [..], x, y -/
def sP3OOF (i j l : Nat) (mo mp : E (List D)) (me : E D) : E Fl := eb mo fun ds => eb mp fun es => eb me fun d ρ Q _ z => Q .nx (((ρ.set i (.own ds)).set j (.own es)).set l (.fr d)) z
def sP3OFF (i j l : Nat) (mo : E (List D)) (me mf : E D) : E Fl := eb mo fun ds => eb me fun d => eb mf fun e ρ Q _ z => Q .nx (((ρ.set i (.own ds)).set j (.fr d)).set l (.fr e)) z
section
variable {X : Cx} {C : CC} {W : WX} {k : Nat} {x y v : Str} {a b c : Expr} {px py pv pt pos : Pos} {mo mp : E (List D)} {me mf : E D}
theorem xs_p3OOF (i j l : Nat) {kt k2 pt2} (kx : Kx X C W k) (hi : X.N[i]? = some x) (hj : X.N[j]? = some y) (hl : X.N[l]? = some v) (hij : i ≠ j) (hil : i ≠ l) (hjl : j ≠ l)
    (hx : X.env.scope.names.lookup x = some .local) (hy : X.env.scope.names.lookup y = some .local) (hv : X.env.scope.names.lookup v = some .local) (ha : XO X C W a mo) (hb : ∀ q, Kx X (C.hide q) W k → XO X (C.hide q) W b mp) (hc : ∀ q p, Kx X ((C.hide q).hide p) W k → XE X ((C.hide q).hide p) W c me)
    (hw : swappedStores [.Tuple [.Name x px, .Name y py, .Name v pv] kt pt] (.Tuple [a, b, c] k2 pt2) X.env = pure (some [x, y, v]))
    (hs : swapsWithSole [.Tuple [.Name x px, .Name y py, .Name v pv] kt pt] (.Tuple [a, b, c] k2 pt2) pos.line X.env = pure false := by rfl) (hp : starEach (a :: [b, c]) X.env = (false, eval a X.env) :: starEach [b, c] X.env := by rfl) (hp2 : starEach (b :: [c]) X.env = (false, eval b X.env) :: starEach [c] X.env := by rfl) (h1 : S1 X c := by rfl) :
    XS X C W (.Assign [.Tuple [.Name x px, .Name y py, .Name v pv] kt pt] (.Tuple [a, b, c] k2 pt2) pos) (sP3OOF i j l mo mp me) := by
  obtain ⟨ta, a1, a2⟩ := ha.ex
  refine ⟨_, ps_par3 kx.calm kx.nd hi hj hl hij hil hjl hx hy hv (pa_cons a1 (pa_cons (pe_U (v := b)) (pa_cons (pe_U (v := c)) pa_nil h1) hp2) hp) hw hs, fun σ ρ F H z Qd Xd Dn S hm hq hxx => ?_⟩
  refine a2 σ ρ F H z _ Xd _ S hm (fun ds ρ1 z1 u F1 H1 q1 S1 ff1 k1 o1 ⟨q, xs, e1, e2, e3, e4, e5, e6⟩ => ?_) (fun e ρ' z' cls dd F' H' q S' ff r => hxx e ρ' z' cls dd σ F' H' q S' ff r)
  subst e1
  obtain ⟨tb, b1, b2⟩ := (hb q (kx_hide kx)).ex
  have no1 := S.notOwn e4 o1
  have Sh := S1.hideO e3 e2 e5 no1
  refine ⟨tb, b1, b2 σ ρ1 F1 H1 z1 _ Xd _ Sh q1 (fun es ρ2 z2 w F2 H2 q2 S2 ff2 k2 o2 ⟨p, ys, g1, g2, g3, g4, g5, g6⟩ => ?_) (fun e ρ' z' cls dd F' H' q S' ff r => hxx e ρ' z' cls dd σ F' H' q S'.unhide (ff1.trans ff) r)⟩
  subst g1
  obtain ⟨tc, c1, c2⟩ := (hc q p (kx_hide (kx_hide kx))).ex
  have no2 := Sh.notOwn g4 o2
  have h2 : H2 q = some (.lst xs) := k2.ke q _ e2 e5 (nog e3)
  have npq : p ≠ q := fun w => by rw [w, e2] at g4; cases g4
  have Si := S2.hideO g3 g2 g5 no2
  refine ⟨tc, c1, c2 σ ρ2 F2 H2 z2 _ Xd _ Si q2 (fun d ρ3 z3 t F3 H3 q3 S3 ff3 k3 o3 r3 => ?_) (fun e ρ' z' cls dd F' H' q S' ff r => hxx e ρ' z' cls dd σ F' H' q S'.unhide.unhide ((ff1.trans ff2).trans ff) r)⟩
  have fp := (S3.hd p List.mem_cons_self).1
  have fq := (S3.hd q (List.mem_cons_of_mem _ List.mem_cons_self)).1
  have fq2 := (S2.hd q List.mem_cons_self).1
  have h3 : H3 q = some (.lst xs) := k3.ke q _ h2 e5 (nog fq2)
  have h4 : H3 p = some (.lst ys) := k3.ke p _ g2 g5 (nog g3)
  refine ⟨_, _, _, rfl, hq .nx _ z3 F3 H3 q3 ((ff1.trans ff2).trans ff3) _ ?_⟩
  have Sf := S3.unhide.unhide.setO i h3 fq (S.h0None e4 e5) e5 (RpL.mono (ff2.trans ff3) e6) (S.notOwn e4 ((o3.trans o2).trans o1)) (S.notHid e4)
  refine (Sf.setO j h4 fp (Sh.h0None g4 g5) g5 (RpL.mono ff3 g6) (fun m ys' r1 r2 => ?_) (S1.notHid g4)).setF l r3
  rcases get_set r1 with ⟨el, h, hl⟩ | ⟨hne, h⟩
  · rw [el] at r2
    rcases get_set r2 with ⟨_, w, _⟩ | ⟨hne, _⟩
    · cases w; exact npq rfl
    · exact hne rfl
  · rw [List.getElem?_set_ne (Ne.symm hne)] at r2
    exact Sh.notOwn g4 (o3.trans o2) m ys' h r2
theorem xs_p3OFF (i j l : Nat) {kt k2 pt2} (kx : Kx X C W k) (hi : X.N[i]? = some x) (hj : X.N[j]? = some y) (hl : X.N[l]? = some v) (hij : i ≠ j) (hil : i ≠ l) (hjl : j ≠ l)
    (hx : X.env.scope.names.lookup x = some .local) (hy : X.env.scope.names.lookup y = some .local) (hv : X.env.scope.names.lookup v = some .local) (ha : XO X C W a mo) (hb : ∀ q, Kx X (C.hide q) W k → XE X (C.hide q) W b me) (hc : ∀ q, Kx X (C.hide q) W k → XE X (C.hide q) W c mf)
    (hw : swappedStores [.Tuple [.Name x px, .Name y py, .Name v pv] kt pt] (.Tuple [a, b, c] k2 pt2) X.env = pure (some [x, y, v]))
    (hs : swapsWithSole [.Tuple [.Name x px, .Name y py, .Name v pv] kt pt] (.Tuple [a, b, c] k2 pt2) pos.line X.env = pure false := by rfl) (hp : starEach (a :: [b, c]) X.env = (false, eval a X.env) :: starEach [b, c] X.env := by rfl) (hp2 : starEach (b :: [c]) X.env = (false, eval b X.env) :: starEach [c] X.env := by rfl) (h1 : S1 X c := by rfl) :
    XS X C W (.Assign [.Tuple [.Name x px, .Name y py, .Name v pv] kt pt] (.Tuple [a, b, c] k2 pt2) pos) (sP3OFF i j l mo me mf) := by
  obtain ⟨ta, a1, a2⟩ := ha.ex
  refine ⟨_, ps_par3 kx.calm kx.nd hi hj hl hij hil hjl hx hy hv (pa_cons a1 (pa_cons (pe_U (v := b)) (pa_cons (pe_U (v := c)) pa_nil h1) hp2) hp) hw hs, fun σ ρ F H z Qd Xd Dn S hm hq hxx => ?_⟩
  refine a2 σ ρ F H z _ Xd _ S hm (fun ds ρ1 z1 u F1 H1 q1 S1 ff1 k1 o1 ⟨q, xs, e1, e2, e3, e4, e5, e6⟩ => ?_) (fun e ρ' z' cls dd F' H' q S' ff r => hxx e ρ' z' cls dd σ F' H' q S' ff r)
  subst e1
  obtain ⟨tb, b1, b2⟩ := (hb q (kx_hide kx)).ex
  obtain ⟨tc, c1, c2⟩ := (hc q (kx_hide kx)).ex
  have no1 := S.notOwn e4 o1
  have Sh := S1.hideO e3 e2 e5 no1
  refine ⟨tb, b1, b2 σ ρ1 F1 H1 z1 _ Xd _ Sh q1 (fun d ρ2 z2 w F2 H2 q2 S2 ff2 k2 o2 r2 => ?_) (fun e ρ' z' cls dd F' H' q S' ff r => hxx e ρ' z' cls dd σ F' H' q S'.unhide (ff1.trans ff) r)⟩
  refine ⟨tc, c1, c2 σ ρ2 F2 H2 z2 _ Xd _ S2 q2 (fun d3 ρ3 z3 t F3 H3 q3 S3 ff3 k3 o3 r3 => ?_) (fun e ρ' z' cls dd F' H' q S' ff r => hxx e ρ' z' cls dd σ F' H' q S'.unhide ((ff1.trans ff2).trans ff) r)⟩
  have fq := (S3.hd q List.mem_cons_self).1
  have fq2 := (S2.hd q List.mem_cons_self).1
  have h3 : H3 q = some (.lst xs) := k3.ke q _ (k2.ke q _ e2 e5 (nog e3)) e5 (nog fq2)
  refine ⟨_, _, _, rfl, hq .nx _ z3 F3 H3 q3 ((ff1.trans ff2).trans ff3) _ ?_⟩
  exact ((S3.unhide.setO i h3 fq (S.h0None e4 e5) e5 (RpL.mono (ff2.trans ff3) e6) (S.notOwn e4 ((o3.trans o2).trans o1)) (S.notHid e4)).setF j (Rp.mono ff3 r2)).setF l r3
end
@[simp] theorem sP3OOF_a (i j l : Nat) (mo mp : E (List D)) (me : E D) (ρ : Rho) (Q : Fl → Rho → Zs → Prop) (X : Er → Rho → Zs → Prop) (z : Zs) : sP3OOF i j l mo mp me ρ Q X z = mo ρ (fun ds ρ1 z1 => mp ρ1 (fun es ρ2 z2 => me ρ2 (fun d ρ3 z3 => Q .nx (((ρ3.set i (.own ds)).set j (.own es)).set l (.fr d)) z3) X z2) X z1) X z := propext Iff.rfl
@[simp] theorem sP3OFF_a (i j l : Nat) (mo : E (List D)) (me mf : E D) (ρ : Rho) (Q : Fl → Rho → Zs → Prop) (X : Er → Rho → Zs → Prop) (z : Zs) : sP3OFF i j l mo me mf ρ Q X z = mo ρ (fun ds ρ1 z1 => me ρ1 (fun d ρ2 z2 => mf ρ2 (fun e ρ3 z3 => Q .nx (((ρ3.set i (.own ds)).set j (.fr d)).set l (.fr e)) z3) X z2) X z1) X z := propext Iff.rfl
@[simp] theorem eDsp_a (ks : List Str) (ms : E (List D)) (ρ : Rho) (Q : D → Rho → Zs → Prop) (X : Er → Rho → Zs → Prop) (z : Zs) : eDsp ks ms ρ Q X z = ms ρ (fun ds ρ' z' => Q (.dic (skeys ks) ds) ρ' z') X z := propext Iff.rfl
@[simp] theorem eSpr_a (mb : E D) (ks : List Str) (ms : E (List D)) (ρ : Rho) (Q : D → Rho → Zs → Prop) (X : Er → Rho → Zs → Prop) (z : Zs) : eSpr mb ks ms ρ Q X z = mb ρ (fun b ρ' z' => fSpr ks ms b ρ' Q X z') X z := propext Iff.rfl
@[simp] theorem fSpr_a (js : List Key) (es : List D) (ks : List Str) (ms : E (List D)) (ρ : Rho) (Q : D → Rho → Zs → Prop) (X : Er → Rho → Zs → Prop) (z : Zs) : fSpr ks ms (.dic js es) ρ Q X z = (js.length ≤ 100 ∧ ms ρ (fun ds ρ' z' => Q (.dic (dputs js es (skeys ks) ds).1 (dputs js es (skeys ks) ds).2) ρ' z') X z) := propext Iff.rfl
end DL

namespace DL
open PySem PySem.Spec PyProof.Rows L2
/-! ## a def with defaults, all values written -/
theorem binds_full {K : PySem.W.Frag} {x qual : Str} {params : Arguments} {body : List Stmt} {scope : Scope} {dvs : List V} {kws : List (Str × V)} {f : Addr} {fd : FuncData} {ps : List Str} (F : FunD K x qual params body scope dvs kws f fd) (hd : dvs ≠ [])
    (h : ∀ (T : Addr) (kV doc pm : Value) (an : Option Addr) (cdv ct : Value) (us its : List Value), us.length = ps.length → its.length = dvs.length →
      ∃ k, bindArgs (PySem.W.fnOf x qual params body scope (.ref T) kV doc pm an cdv ct) ⟨us, []⟩ = seqItems? (.ref T) >>= k ∧ k (some its.toArray) = pure (ps.zip us)) : Binds K fd ps [] := by
  obtain ⟨ds, r, b⟩ := F.binds1 (ps := ps) ps.length dvs.length hd (by omega) fun T kV doc pm an cdv ct us its h1 h2 => by
    obtain ⟨k, e1, e2⟩ := h T kV doc pm an cdv ct us its h1 h2
    refine ⟨k, e1, ?_⟩
    rw [List.drop_eq_nil_of_le (show its.length ≤ dvs.length by omega), List.append_nil]
    exact e2
  rw [List.drop_eq_nil_of_le (Nat.le_refl _)] at r
  cases r
  exact b
end DL

namespace DL
open PySem PySem.Spec PyProof.Rows L2
/-! ## a or b, a a text -/
def fOrT (m2 : E D) : D → E D
  | .str s => fun ρ Q X z => s.length ≤ 16777216 ∧ if ((s.length : Int) != 0) = true then Q (.str s) ρ z else m2 ρ Q X z
  | _ => eStuck
def eOrT (m1 m2 : E D) : E D := eb m1 (fOrT m2)
section
variable {X : Cx} {C : CC} {W : WX} {a b : Expr} {rest : List Expr} {m1 m2 : E D} {pos : Pos}
theorem den_orT {t u : TE} {m1 m2 : E D} (h1 : Den C W t m1 (kR C)) (h2 : Den C W u m2 (kR C)) : Den C W (tOrT C.K t u) (eOrT m1 m2) (kR C) := by
  refine Den.bind (u := fun (x : V) σ H (Q : VK) => ∃ k, TruV C.K x H k ∧ if k = true then Q x H else u σ H Q) (f := fOrT m2) back_R h1 ?_
  intro H0 σ ρ F H z d x Qd Xd Q S ra hm hq hx
  cases d with
  | str s =>
    cases ra
    obtain ⟨hl, hm⟩ := hm
    refine ⟨_, ⟨line_le hl, rfl⟩, ?_⟩
    by_cases e : ((s.length : Int) != 0) = true
    · rw [if_pos e] at hm ⊢
      exact S.same (R := kR C) hm (.str _) hq
    · rw [if_neg e] at hm ⊢
      exact h2 σ ρ F H z Qd Xd Q S hm hq hx
  | _ => exact False.elim hm
theorem xe_orT (hk : X.K = C.K) (ha : XE X C W a m1) (hb : XE X C W (.BoolOp .Or (b :: rest) pos) m2) : XE X C W (.BoolOp .Or (a :: b :: rest) pos) (eOrT m1 m2) := by
  obtain ⟨ta, a1, a2⟩ := ha.ex
  obtain ⟨tb, b1, b2⟩ := hb.ex
  exact ⟨_, pe_orT a1 b1, by rw [hk]; exact den_orT a2 b2⟩
end
@[simp] theorem eOrT_a (m1 m2 : E D) (ρ : Rho) (Q : D → Rho → Zs → Prop) (X : Er → Rho → Zs → Prop) (z : Zs) : eOrT m1 m2 ρ Q X z = m1 ρ (fun d ρ' z' => fOrT m2 d ρ' Q X z') X z := propext Iff.rfl
@[simp] theorem fOrT_s (m2 : E D) (s : Str) (ρ : Rho) (Q : D → Rho → Zs → Prop) (X : Er → Rho → Zs → Prop) (z : Zs) : fOrT m2 (.str s) ρ Q X z = (s.length ≤ 16777216 ∧ if ((s.length : Int) != 0) = true then Q (.str s) ρ z else m2 ρ Q X z) := propext Iff.rfl
end DL

namespace LW
open PySem PySem.Spec PyProof.Rows L2 DL
def top (i : Nat) : Stmt := PySem.Challenge.pw_dividersteps_k19_one_fill.main.body.getD i (.Pass ⟨0, 0, 0, 0⟩)
def d0 : He.DefD := ⟨("_wall", none), "_wall", "_wall", defArgs (top 0), defBody (top 0), defScope (top 0), [], []⟩
def d2_0 : He.DefD := ⟨("DividerError", some "__init__"), "__init__", "DividerError.__init__", defArgs (inClass (top 2) 0), defBody (inClass (top 2) 0), defScope (inClass (top 2) 0), [], []⟩
def d3_0 : He.DefD := ⟨("InvalidDeed", some "__init__"), "__init__", "InvalidDeed.__init__", defArgs (inClass (top 3) 0), defBody (inClass (top 3) 0), defScope (inClass (top 3) 0), [], []⟩
def d4_0 : He.DefD := ⟨("InvalidName", some "__init__"), "__init__", "InvalidName.__init__", defArgs (inClass (top 4) 0), defBody (inClass (top 4) 0), defScope (inClass (top 4) 0), [], []⟩
def d5_0 : He.DefD := ⟨("InvalidFraction", some "__init__"), "__init__", "InvalidFraction.__init__", defArgs (inClass (top 5) 0), defBody (inClass (top 5) 0), defScope (inClass (top 5) 0), [], []⟩
def d6_0 : He.DefD := ⟨("UnknownDeed", some "__init__"), "__init__", "UnknownDeed.__init__", defArgs (inClass (top 6) 0), defBody (inClass (top 6) 0), defScope (inClass (top 6) 0), [], []⟩
def d8 : He.DefD := ⟨("common_divisor", none), "common_divisor", "common_divisor", defArgs (top 8), defBody (top 8), defScope (top 8), [], []⟩
def d9 : He.DefD := ⟨("fraction", none), "fraction", "fraction", defArgs (top 9), defBody (top 9), defScope (top 9), [], []⟩
def d10 : He.DefD := ⟨("fraction_order", none), "fraction_order", "fraction_order", defArgs (top 10), defBody (top 10), defScope (top 10), [], []⟩
def d15 : He.DefD := ⟨("is_name", none), "is_name", "is_name", defArgs (top 15), defBody (top 15), defScope (top 15), [], []⟩
def d16 : He.DefD := ⟨("deed_names", none), "deed_names", "deed_names", defArgs (top 16), defBody (top 16), defScope (top 16), [], []⟩
def d17 : He.DefD := ⟨("checked_deed", none), "checked_deed", "checked_deed", defArgs (top 17), defBody (top 17), defScope (top 17), [], []⟩
def d18 : He.DefD := ⟨("kept_deeds", none), "kept_deeds", "kept_deeds", defArgs (top 18), defBody (top 18), defScope (top 18), [], []⟩
def d19_0 : He.DefD := ⟨("Script", some "__init__"), "__init__", "Script.__init__", defArgs (inClass (top 19) 0), defBody (inClass (top 19) 0), defScope (inClass (top 19) 0), [], []⟩
def d19_2 : He.DefD := ⟨("Script", some "names"), "names", "Script.names", defArgs (inClass (top 19) 2), defBody (inClass (top 19) 2), defScope (inClass (top 19) 2), [], []⟩
def d19_3 : He.DefD := ⟨("Script", some "check_index"), "check_index", "Script.check_index", defArgs (inClass (top 19) 3), defBody (inClass (top 19) 3), defScope (inClass (top 19) 3), [], []⟩
def d19_4 : He.DefD := ⟨("Script", some "without"), "without", "Script.without", defArgs (inClass (top 19) 4), defBody (inClass (top 19) 4), defScope (inClass (top 19) 4), [], []⟩
def d19_5 : He.DefD := ⟨("Script", some "exchanged"), "exchanged", "Script.exchanged", defArgs (inClass (top 19) 5), defBody (inClass (top 19) 5), defScope (inClass (top 19) 5), [], []⟩
def d19_6 : He.DefD := ⟨("Script", some "joined"), "joined", "Script.joined", defArgs (inClass (top 19) 6), defBody (inClass (top 19) 6), defScope (inClass (top 19) 6), [], []⟩
def d19_7 : He.DefD := ⟨("Script", some "__getitem__"), "__getitem__", "Script.__getitem__", defArgs (inClass (top 19) 7), defBody (inClass (top 19) 7), defScope (inClass (top 19) 7), [], []⟩
def d19_8 : He.DefD := ⟨("Script", some "__iter__"), "__iter__", "Script.__iter__", defArgs (inClass (top 19) 8), defBody (inClass (top 19) 8), defScope (inClass (top 19) 8), [], []⟩
def d19_9 : He.DefD := ⟨("Script", some "__len__"), "__len__", "Script.__len__", defArgs (inClass (top 19) 9), defBody (inClass (top 19) 9), defScope (inClass (top 19) 9), [], []⟩
def d19_10 : He.DefD := ⟨("Script", some "__eq__"), "__eq__", "Script.__eq__", defArgs (inClass (top 19) 10), defBody (inClass (top 19) 10), defScope (inClass (top 19) 10), [], []⟩
def d22 : He.DefD := ⟨("cut_at", none), "cut_at", "cut_at", defArgs (top 22), defBody (top 22), defScope (top 22), [], []⟩
def d23 : He.DefD := ⟨("form_root", none), "form_root", "form_root", defArgs (top 23), defBody (top 23), defScope (top 23), [], []⟩
def d24 : He.DefD := ⟨("at_least_parts", none), "at_least_parts", "at_least_parts", defArgs (top 24), defBody (top 24), defScope (top 24), [], []⟩
def d25 : He.DefD := ⟨("sign_parts", none), "sign_parts", "sign_parts", defArgs (top 25), defBody (top 25), defScope (top 25), [], []⟩
def d27 : He.DefD := ⟨("form_plus", none), "form_plus", "form_plus", defArgs (top 27), defBody (top 27), defScope (top 27), [.int 1], []⟩
def d28 : He.DefD := ⟨("first_state", none), "first_state", "first_state", defArgs (top 28), defBody (top 28), defScope (top 28), [], []⟩
def d29 : He.DefD := ⟨("gap_form", none), "gap_form", "gap_form", defArgs (top 29), defBody (top 29), defScope (top 29), [], []⟩
def d30 : He.DefD := ⟨("form_of", none), "form_of", "form_of", defArgs (top 30), defBody (top 30), defScope (top 30), [], []⟩
def d31 : He.DefD := ⟨("lead_moved", none), "lead_moved", "lead_moved", defArgs (top 31), defBody (top 31), defScope (top 31), [], []⟩
def d32 : He.DefD := ⟨("lead_failed", none), "lead_failed", "lead_failed", defArgs (top 32), defBody (top 32), defScope (top 32), [], []⟩
def d33 : He.DefD := ⟨("after_steps", none), "after_steps", "after_steps", defArgs (top 33), defBody (top 33), defScope (top 33), [], []⟩
def d34 : He.DefD := ⟨("lead_filled", none), "lead_filled", "lead_filled", defArgs (top 34), defBody (top 34), defScope (top 34), [], []⟩
def d35 : He.DefD := ⟨("after_fill", none), "after_fill", "after_fill", defArgs (top 35), defBody (top 35), defScope (top 35), [], []⟩
def d36 : He.DefD := ⟨("after_gap", none), "after_gap", "after_gap", defArgs (top 36), defBody (top 36), defScope (top 36), [], []⟩
def d37 : He.DefD := ⟨("after_span", none), "after_span", "after_span", defArgs (top 37), defBody (top 37), defScope (top 37), [], []⟩
def d38 : He.DefD := ⟨("after_rest", none), "after_rest", "after_rest", defArgs (top 38), defBody (top 38), defScope (top 38), [], []⟩
def d39 : He.DefD := ⟨("lead_scribed", none), "lead_scribed", "lead_scribed", defArgs (top 39), defBody (top 39), defScope (top 39), [], []⟩
def d40 : He.DefD := ⟨("after_plain", none), "after_plain", "after_plain", defArgs (top 40), defBody (top 40), defScope (top 40), [], []⟩
def d41 : He.DefD := ⟨("after_deed", none), "after_deed", "after_deed", defArgs (top 41), defBody (top 41), defScope (top 41), [], []⟩
def d42 : He.DefD := ⟨("led_parts", none), "led_parts", "led_parts", defArgs (top 42), defBody (top 42), defScope (top 42), [], []⟩
def d44 : He.DefD := ⟨("end_told", none), "end_told", "end_told", defArgs (top 44), defBody (top 44), defScope (top 44), [], []⟩
def d45 : He.DefD := ⟨("ranges", none), "ranges", "ranges", defArgs (top 45), defBody (top 45), defScope (top 45), [], []⟩
def d47 : He.DefD := ⟨("_law_rg_sack", none), "_law_rg_sack", "_law_rg_sack", defArgs (top 47), defBody (top 47), defScope (top 47), [], []⟩
def d48 : He.DefD := ⟨("_law_rg_pick", none), "_law_rg_pick", "_law_rg_pick", defArgs (top 48), defBody (top 48), defScope (top 48), [], []⟩
def d49 : He.DefD := ⟨("_law_rg_names", none), "_law_rg_names", "_law_rg_names", defArgs (top 49), defBody (top 49), defScope (top 49), [], []⟩
def d50 : He.DefD := ⟨("_law_rg_row", none), "_law_rg_row", "_law_rg_row", defArgs (top 50), defBody (top 50), defScope (top 50), [], []⟩
def d51 : He.DefD := ⟨("_law_rg_rows", none), "_law_rg_rows", "_law_rg_rows", defArgs (top 51), defBody (top 51), defScope (top 51), [], []⟩
def d52 : He.DefD := ⟨("_law_rg_right", none), "_law_rg_right", "_law_rg_right", defArgs (top 52), defBody (top 52), defScope (top 52), [], []⟩
def d53 : He.DefD := ⟨("law", none), "law", "law", defArgs (top 53), defBody (top 53), defScope (top 53), [], []⟩
def d19_1 : He.DefD := ⟨("Script", some "deeds"), "deeds", "Script.deeds", defArgs (inClass (top 19) 1), defBody (inClass (top 19) 1), defScope (inClass (top 19) 1), [], []⟩
def gsL : List He.DefD := [d19_1]
def tb_DEED_THINGS : List (Str × D) := [("left", (D.tup [(D.int 0), (D.int 0)])), ("right", (D.tup [(D.int 0), (D.int 0)])), ("steps", (D.tup [(D.int 1), (D.int 0)])), ("fill", (D.tup [(D.int 1), (D.int 0)])), ("gap", (D.tup [(D.int 0), (D.int 0)])), ("span", (D.tup [(D.int 0), (D.int 2)])), ("mark", (D.tup [(D.int 0), (D.int 1)])), ("go", (D.tup [(D.int 0), (D.int 1)])), ("turn", (D.tup [(D.int 0), (D.int 0)])), ("rest", (D.tup [(D.int 0), (D.int 0)]))]
def tsL : List He.Tab := [(fun K => He.ga K "DEED_THINGS", ["left", "right", "steps", "fill", "gap", "span", "mark", "go", "turn", "rest"])]
def fnL : List He.DefD := ([d0, d2_0, d3_0, d4_0, d5_0, d6_0, d8, d9, d10, d15, d16, d17, d18, d19_0, d19_2, d19_3, d19_4, d19_5, d19_6, d19_7] : List He.DefD) ++ ([d19_8, d19_9, d19_10, d22, d23, d24, d25, d27, d28, d29, d30, d31, d32, d33, d34, d35, d36, d37, d38, d39] : List He.DefD) ++ ([d40, d41, d42, d44, d45, d47, d48, d49, d50, d51, d52, d53] : List He.DefD)
def faL : List He.Fa := ([.glo "_wall", .glo "DividerError", .glo "InvalidDeed", .glo "InvalidName", .glo "InvalidFraction", .glo "UnknownDeed", .glo "common_divisor", .glo "fraction", .glo "fraction_order", .str "LETTERS" "abcdefghijklmnopqrstuvwxyz", .int "LONGEST_NAME" 8, .glo "DEED_THINGS", .glo "is_name", .glo "deed_names", .glo "checked_deed", .glo "kept_deeds", .glo "Script", .glo "ALL_OPENINGS", .glo "cut_at", .glo "form_root"] : List He.Fa) ++ ([.glo "at_least_parts", .glo "sign_parts", .glo "form_plus", .glo "first_state", .glo "gap_form", .glo "form_of", .glo "lead_moved", .glo "lead_failed", .glo "after_steps", .glo "lead_filled", .glo "after_fill", .glo "after_gap", .glo "after_span", .glo "after_rest", .glo "lead_scribed", .glo "after_plain", .glo "after_deed", .glo "led_parts", .glo "end_told", .glo "ranges"] : List He.Fa) ++ ([.glo "_law_rg_sack", .glo "_law_rg_pick", .glo "_law_rg_names", .glo "_law_rg_row", .glo "_law_rg_rows", .glo "_law_rg_right", .glo "law", .free "ValueError", .free "abs", .free "all", .free "enumerate", .free "int", .free "isinstance", .free "len", .free "list", .free "max", .free "min", .free "range", .free "repr", .free "set"] : List He.Fa) ++ ([.free "sorted", .cls "Script", .mkr "Script", .noat "Script" "kept", .meth "Script" "__init__", .meth "Script" "check_index"] : List He.Fa)
def exL : List (PySem.W.Frag → Bool) := ([fun K => ecB K (He.ga K "DividerError") (He.fAd K ("DividerError", some "__init__")), fun K => ecB K (He.ga K "InvalidDeed") (He.fAd K ("InvalidDeed", some "__init__")), fun K => ecB K (He.ga K "InvalidName") (He.fAd K ("InvalidName", some "__init__")), fun K => ecB K (He.ga K "InvalidFraction") (He.fAd K ("InvalidFraction", some "__init__")), fun K => ecB K (He.ga K "UnknownDeed") (He.fAd K ("UnknownDeed", some "__init__")), fun K => propB K "Script" "deeds", fun K => ktabB K (He.ga K "DEED_THINGS") tb_DEED_THINGS, fun K => gtupB K "ALL_OPENINGS" (D.tup [(D.tup [(D.int 0), (D.int 1)]), (D.bl false), (D.tup [(D.int 1), (D.int 1)]), (D.bl true)])] : List (PySem.W.Frag → Bool))
def exB (K : PySem.W.Frag) : Bool := exL.all fun f => f K
abbrev RowL : PySem.W.OpenRow := PySem.W.OpenLaw.row PySem.Challenge.rw_dividersteps_k19_one_fill
abbrev hkL : PySem.W.Hook := hookF 6 faL fnL tsL gsL exB
def obL (s : PySem.W.SharedT) : AlF := obsF 6 faL fnL tsL gsL exB (HandSHeadRun.getT s)
theorem obL_eq (s : PySem.W.SharedT) : obL s = hkL.obs s.abs := obsF_eq (HandSHeadRun.getT_eq s)
def looseL : List PySem.Str := (["_wall", "DividerError", "InvalidDeed", "InvalidName", "InvalidFraction", "UnknownDeed", "common_divisor", "fraction", "fraction_order", "LETTERS", "LONGEST_NAME", "DEED_THINGS", "is_name", "deed_names", "checked_deed", "kept_deeds", "Script", "ALL_OPENINGS", "cut_at", "form_root"] : List PySem.Str) ++ (["at_least_parts", "sign_parts", "form_plus", "first_state", "gap_form", "form_of", "lead_moved", "lead_failed", "after_steps", "lead_filled", "after_fill", "after_gap", "after_span", "after_rest", "lead_scribed", "after_plain", "after_deed", "led_parts", "end_told", "ranges"] : List PySem.Str) ++ (["_law_rg_sack", "_law_rg_pick", "_law_rg_names", "_law_rg_row", "_law_rg_rows", "_law_rg_right"] : List PySem.Str)
theorem runA (w : World) : HandSHeadRun.RunEq RowL (PySem.W.view RowL.prog [53]) hkL obL 6000 looseL (w.withFollow "special-get-raises" false) := by
  intro os
  kernel_rfl
theorem runB (w : World) : HandSHeadRun.RunEq RowL (PySem.W.view RowL.prog [53]) hkL obL 6000 looseL (w.withFollow "special-get-raises" true) := by
  intro os
  kernel_rfl
theorem runL (w : World) : HandSHeadRun.RunEq RowL (PySem.W.view RowL.prog [53]) hkL obL 6000 looseL w := PySem.W.byRow2 "special-get-raises" (P := fun w => HandSHeadRun.RunEq RowL (PySem.W.view RowL.prog [53]) hkL obL 6000 looseL w) runA runB w
def Ctx (_P : Program) (w : World) (K : PySem.W.Frag) (mg : Str → Option Value) (base : Heap) : Prop := K.In base ∧ base.Ns mainGlobals mg ∧ SaysF faL fnL tsL gsL exB w K
section
variable {P : Program} {w : World} {K : PySem.W.Frag} {mg : Str → Option Value} {base : Heap}
theorem mg__wall (B : Ctx P w K mg base) : mg "_wall" = some (.ref (He.ga K "_wall")) := He.glo_ok B.1 B.2.1 (B.2.2.1.fact 0 (f := .glo "_wall") rfl)
theorem mg_DividerError (B : Ctx P w K mg base) : mg "DividerError" = some (.ref (He.ga K "DividerError")) := He.glo_ok B.1 B.2.1 (B.2.2.1.fact 1 (f := .glo "DividerError") rfl)
theorem mg_InvalidDeed (B : Ctx P w K mg base) : mg "InvalidDeed" = some (.ref (He.ga K "InvalidDeed")) := He.glo_ok B.1 B.2.1 (B.2.2.1.fact 2 (f := .glo "InvalidDeed") rfl)
theorem mg_InvalidName (B : Ctx P w K mg base) : mg "InvalidName" = some (.ref (He.ga K "InvalidName")) := He.glo_ok B.1 B.2.1 (B.2.2.1.fact 3 (f := .glo "InvalidName") rfl)
theorem mg_InvalidFraction (B : Ctx P w K mg base) : mg "InvalidFraction" = some (.ref (He.ga K "InvalidFraction")) := He.glo_ok B.1 B.2.1 (B.2.2.1.fact 4 (f := .glo "InvalidFraction") rfl)
theorem mg_UnknownDeed (B : Ctx P w K mg base) : mg "UnknownDeed" = some (.ref (He.ga K "UnknownDeed")) := He.glo_ok B.1 B.2.1 (B.2.2.1.fact 5 (f := .glo "UnknownDeed") rfl)
theorem mg_common_divisor (B : Ctx P w K mg base) : mg "common_divisor" = some (.ref (He.ga K "common_divisor")) := He.glo_ok B.1 B.2.1 (B.2.2.1.fact 6 (f := .glo "common_divisor") rfl)
theorem mg_fraction (B : Ctx P w K mg base) : mg "fraction" = some (.ref (He.ga K "fraction")) := He.glo_ok B.1 B.2.1 (B.2.2.1.fact 7 (f := .glo "fraction") rfl)
theorem mg_fraction_order (B : Ctx P w K mg base) : mg "fraction_order" = some (.ref (He.ga K "fraction_order")) := He.glo_ok B.1 B.2.1 (B.2.2.1.fact 8 (f := .glo "fraction_order") rfl)
theorem mg_LETTERS (B : Ctx P w K mg base) : ∃ t, mg "LETTERS" = some (.str "abcdefghijklmnopqrstuvwxyz" t) := He.str_ok B.1 B.2.1 (B.2.2.1.fact 9 (f := .str "LETTERS" "abcdefghijklmnopqrstuvwxyz") rfl)
theorem mg_LONGEST_NAME (B : Ctx P w K mg base) : ∃ t, mg "LONGEST_NAME" = some (.int 8 t) := He.int_ok B.1 B.2.1 (B.2.2.1.fact 10 (f := .int "LONGEST_NAME" 8) rfl)
theorem mg_DEED_THINGS (B : Ctx P w K mg base) : mg "DEED_THINGS" = some (.ref (He.ga K "DEED_THINGS")) := He.glo_ok B.1 B.2.1 (B.2.2.1.fact 11 (f := .glo "DEED_THINGS") rfl)
theorem mg_is_name (B : Ctx P w K mg base) : mg "is_name" = some (.ref (He.ga K "is_name")) := He.glo_ok B.1 B.2.1 (B.2.2.1.fact 12 (f := .glo "is_name") rfl)
theorem mg_deed_names (B : Ctx P w K mg base) : mg "deed_names" = some (.ref (He.ga K "deed_names")) := He.glo_ok B.1 B.2.1 (B.2.2.1.fact 13 (f := .glo "deed_names") rfl)
theorem mg_checked_deed (B : Ctx P w K mg base) : mg "checked_deed" = some (.ref (He.ga K "checked_deed")) := He.glo_ok B.1 B.2.1 (B.2.2.1.fact 14 (f := .glo "checked_deed") rfl)
theorem mg_kept_deeds (B : Ctx P w K mg base) : mg "kept_deeds" = some (.ref (He.ga K "kept_deeds")) := He.glo_ok B.1 B.2.1 (B.2.2.1.fact 15 (f := .glo "kept_deeds") rfl)
theorem mg_Script (B : Ctx P w K mg base) : mg "Script" = some (.ref (He.ga K "Script")) := He.glo_ok B.1 B.2.1 (B.2.2.1.fact 16 (f := .glo "Script") rfl)
theorem mg_ALL_OPENINGS (B : Ctx P w K mg base) : mg "ALL_OPENINGS" = some (.ref (He.ga K "ALL_OPENINGS")) := He.glo_ok B.1 B.2.1 (B.2.2.1.fact 17 (f := .glo "ALL_OPENINGS") rfl)
theorem mg_cut_at (B : Ctx P w K mg base) : mg "cut_at" = some (.ref (He.ga K "cut_at")) := He.glo_ok B.1 B.2.1 (B.2.2.1.fact 18 (f := .glo "cut_at") rfl)
theorem mg_form_root (B : Ctx P w K mg base) : mg "form_root" = some (.ref (He.ga K "form_root")) := He.glo_ok B.1 B.2.1 (B.2.2.1.fact 19 (f := .glo "form_root") rfl)
theorem mg_at_least_parts (B : Ctx P w K mg base) : mg "at_least_parts" = some (.ref (He.ga K "at_least_parts")) := He.glo_ok B.1 B.2.1 (B.2.2.1.fact 20 (f := .glo "at_least_parts") rfl)
theorem mg_sign_parts (B : Ctx P w K mg base) : mg "sign_parts" = some (.ref (He.ga K "sign_parts")) := He.glo_ok B.1 B.2.1 (B.2.2.1.fact 21 (f := .glo "sign_parts") rfl)
theorem mg_form_plus (B : Ctx P w K mg base) : mg "form_plus" = some (.ref (He.ga K "form_plus")) := He.glo_ok B.1 B.2.1 (B.2.2.1.fact 22 (f := .glo "form_plus") rfl)
theorem mg_first_state (B : Ctx P w K mg base) : mg "first_state" = some (.ref (He.ga K "first_state")) := He.glo_ok B.1 B.2.1 (B.2.2.1.fact 23 (f := .glo "first_state") rfl)
theorem mg_gap_form (B : Ctx P w K mg base) : mg "gap_form" = some (.ref (He.ga K "gap_form")) := He.glo_ok B.1 B.2.1 (B.2.2.1.fact 24 (f := .glo "gap_form") rfl)
theorem mg_form_of (B : Ctx P w K mg base) : mg "form_of" = some (.ref (He.ga K "form_of")) := He.glo_ok B.1 B.2.1 (B.2.2.1.fact 25 (f := .glo "form_of") rfl)
theorem mg_lead_moved (B : Ctx P w K mg base) : mg "lead_moved" = some (.ref (He.ga K "lead_moved")) := He.glo_ok B.1 B.2.1 (B.2.2.1.fact 26 (f := .glo "lead_moved") rfl)
theorem mg_lead_failed (B : Ctx P w K mg base) : mg "lead_failed" = some (.ref (He.ga K "lead_failed")) := He.glo_ok B.1 B.2.1 (B.2.2.1.fact 27 (f := .glo "lead_failed") rfl)
theorem mg_after_steps (B : Ctx P w K mg base) : mg "after_steps" = some (.ref (He.ga K "after_steps")) := He.glo_ok B.1 B.2.1 (B.2.2.1.fact 28 (f := .glo "after_steps") rfl)
theorem mg_lead_filled (B : Ctx P w K mg base) : mg "lead_filled" = some (.ref (He.ga K "lead_filled")) := He.glo_ok B.1 B.2.1 (B.2.2.1.fact 29 (f := .glo "lead_filled") rfl)
theorem mg_after_fill (B : Ctx P w K mg base) : mg "after_fill" = some (.ref (He.ga K "after_fill")) := He.glo_ok B.1 B.2.1 (B.2.2.1.fact 30 (f := .glo "after_fill") rfl)
theorem mg_after_gap (B : Ctx P w K mg base) : mg "after_gap" = some (.ref (He.ga K "after_gap")) := He.glo_ok B.1 B.2.1 (B.2.2.1.fact 31 (f := .glo "after_gap") rfl)
theorem mg_after_span (B : Ctx P w K mg base) : mg "after_span" = some (.ref (He.ga K "after_span")) := He.glo_ok B.1 B.2.1 (B.2.2.1.fact 32 (f := .glo "after_span") rfl)
theorem mg_after_rest (B : Ctx P w K mg base) : mg "after_rest" = some (.ref (He.ga K "after_rest")) := He.glo_ok B.1 B.2.1 (B.2.2.1.fact 33 (f := .glo "after_rest") rfl)
theorem mg_lead_scribed (B : Ctx P w K mg base) : mg "lead_scribed" = some (.ref (He.ga K "lead_scribed")) := He.glo_ok B.1 B.2.1 (B.2.2.1.fact 34 (f := .glo "lead_scribed") rfl)
theorem mg_after_plain (B : Ctx P w K mg base) : mg "after_plain" = some (.ref (He.ga K "after_plain")) := He.glo_ok B.1 B.2.1 (B.2.2.1.fact 35 (f := .glo "after_plain") rfl)
theorem mg_after_deed (B : Ctx P w K mg base) : mg "after_deed" = some (.ref (He.ga K "after_deed")) := He.glo_ok B.1 B.2.1 (B.2.2.1.fact 36 (f := .glo "after_deed") rfl)
theorem mg_led_parts (B : Ctx P w K mg base) : mg "led_parts" = some (.ref (He.ga K "led_parts")) := He.glo_ok B.1 B.2.1 (B.2.2.1.fact 37 (f := .glo "led_parts") rfl)
theorem mg_end_told (B : Ctx P w K mg base) : mg "end_told" = some (.ref (He.ga K "end_told")) := He.glo_ok B.1 B.2.1 (B.2.2.1.fact 38 (f := .glo "end_told") rfl)
theorem mg_ranges (B : Ctx P w K mg base) : mg "ranges" = some (.ref (He.ga K "ranges")) := He.glo_ok B.1 B.2.1 (B.2.2.1.fact 39 (f := .glo "ranges") rfl)
theorem mg__law_rg_sack (B : Ctx P w K mg base) : mg "_law_rg_sack" = some (.ref (He.ga K "_law_rg_sack")) := He.glo_ok B.1 B.2.1 (B.2.2.1.fact 40 (f := .glo "_law_rg_sack") rfl)
theorem mg__law_rg_pick (B : Ctx P w K mg base) : mg "_law_rg_pick" = some (.ref (He.ga K "_law_rg_pick")) := He.glo_ok B.1 B.2.1 (B.2.2.1.fact 41 (f := .glo "_law_rg_pick") rfl)
theorem mg__law_rg_names (B : Ctx P w K mg base) : mg "_law_rg_names" = some (.ref (He.ga K "_law_rg_names")) := He.glo_ok B.1 B.2.1 (B.2.2.1.fact 42 (f := .glo "_law_rg_names") rfl)
theorem mg__law_rg_row (B : Ctx P w K mg base) : mg "_law_rg_row" = some (.ref (He.ga K "_law_rg_row")) := He.glo_ok B.1 B.2.1 (B.2.2.1.fact 43 (f := .glo "_law_rg_row") rfl)
theorem mg__law_rg_rows (B : Ctx P w K mg base) : mg "_law_rg_rows" = some (.ref (He.ga K "_law_rg_rows")) := He.glo_ok B.1 B.2.1 (B.2.2.1.fact 44 (f := .glo "_law_rg_rows") rfl)
theorem mg__law_rg_right (B : Ctx P w K mg base) : mg "_law_rg_right" = some (.ref (He.ga K "_law_rg_right")) := He.glo_ok B.1 B.2.1 (B.2.2.1.fact 45 (f := .glo "_law_rg_right") rfl)
theorem mg_law (B : Ctx P w K mg base) : mg "law" = some (.ref (He.ga K "law")) := He.glo_ok B.1 B.2.1 (B.2.2.1.fact 46 (f := .glo "law") rfl)
theorem mbf_ValueError (B : Ctx P w K mg base) : mg "ValueError" = none := He.free_ok B.1 B.2.1 (B.2.2.1.fact 47 (f := .free "ValueError") rfl)
theorem mbf_abs (B : Ctx P w K mg base) : mg "abs" = none := He.free_ok B.1 B.2.1 (B.2.2.1.fact 48 (f := .free "abs") rfl)
theorem mbf_all (B : Ctx P w K mg base) : mg "all" = none := He.free_ok B.1 B.2.1 (B.2.2.1.fact 49 (f := .free "all") rfl)
theorem mbf_enumerate (B : Ctx P w K mg base) : mg "enumerate" = none := He.free_ok B.1 B.2.1 (B.2.2.1.fact 50 (f := .free "enumerate") rfl)
theorem mbf_int (B : Ctx P w K mg base) : mg "int" = none := He.free_ok B.1 B.2.1 (B.2.2.1.fact 51 (f := .free "int") rfl)
theorem mbf_isinstance (B : Ctx P w K mg base) : mg "isinstance" = none := He.free_ok B.1 B.2.1 (B.2.2.1.fact 52 (f := .free "isinstance") rfl)
theorem mbf_len (B : Ctx P w K mg base) : mg "len" = none := He.free_ok B.1 B.2.1 (B.2.2.1.fact 53 (f := .free "len") rfl)
theorem mbf_list (B : Ctx P w K mg base) : mg "list" = none := He.free_ok B.1 B.2.1 (B.2.2.1.fact 54 (f := .free "list") rfl)
theorem mbf_max (B : Ctx P w K mg base) : mg "max" = none := He.free_ok B.1 B.2.1 (B.2.2.1.fact 55 (f := .free "max") rfl)
theorem mbf_min (B : Ctx P w K mg base) : mg "min" = none := He.free_ok B.1 B.2.1 (B.2.2.1.fact 56 (f := .free "min") rfl)
theorem mbf_range (B : Ctx P w K mg base) : mg "range" = none := He.free_ok B.1 B.2.1 (B.2.2.1.fact 57 (f := .free "range") rfl)
theorem mbf_repr (B : Ctx P w K mg base) : mg "repr" = none := He.free_ok B.1 B.2.1 (B.2.2.1.fact 58 (f := .free "repr") rfl)
theorem mbf_set (B : Ctx P w K mg base) : mg "set" = none := He.free_ok B.1 B.2.1 (B.2.2.1.fact 59 (f := .free "set") rfl)
theorem mbf_sorted (B : Ctx P w K mg base) : mg "sorted" = none := He.free_ok B.1 B.2.1 (B.2.2.1.fact 60 (f := .free "sorted") rfl)
theorem exF (B : Ctx P w K mg base) (i : Nat) {f : PySem.W.Frag → Bool} (h : exL[i]? = some f) : f K = true := List.all_eq_true.mp B.2.2.2.1 f (List.mem_of_getElem? h)
theorem kd_DEED_THINGS (B : Ctx P w K mg base) : ∃ es n, KDict K w (He.ga K "DEED_THINGS") es n := B.2.2.2.2.1.tab 0
theorem tab_DEED_THINGS (B : Ctx P w K mg base) : ktabB K (He.ga K "DEED_THINGS") tb_DEED_THINGS = true := exF B 6 (f := fun K => ktabB K (He.ga K "DEED_THINGS") tb_DEED_THINGS) rfl
theorem con_ALL_OPENINGS (B : Ctx P w K mg base) : gtupB K "ALL_OPENINGS" (D.tup [(D.tup [(D.int 0), (D.int 1)]), (D.bl false), (D.tup [(D.int 1), (D.int 1)]), (D.bl true)]) = true := exF B 7 (f := fun K => gtupB K "ALL_OPENINGS" (D.tup [(D.tup [(D.int 0), (D.int 1)]), (D.bl false), (D.tup [(D.int 1), (D.int 1)]), (D.bl true)])) rfl
theorem cls_Script (B : Ctx P w K mg base) : Cls K (He.ga K "Script") := He.cls_ok (B.2.2.1.fact 61 (f := .cls "Script") rfl)
theorem mkr_Script (B : Ctx P w K mg base) : Mk K (He.ga K "Script") (He.fAd K ("Script", some "__init__")) := He.mkr_ok (B.2.2.1.fact 62 (f := .mkr "Script") rfl)
theorem noat_Script (B : Ctx P w K mg base) : ∀ f ∈ (["kept"] : List Str), NoAttr K (He.ga K "Script") f := by
  intro f hf
  simp only [List.mem_cons, List.not_mem_nil, or_false] at hf
  rcases hf with rfl
  · exact He.noat_ok (B.2.2.1.fact 63 (f := .noat "Script" "kept") rfl)
theorem prop_Script_deeds (B : Ctx P w K mg base) : PropOf K (He.ga K "Script") "deeds" (He.ma K (He.ga K "Script") "deeds") (getAd K ("Script", some "deeds")) := propB_ok (exF B 5 (f := fun K => propB K "Script" "deeds") rfl)
theorem meth_Script_check_index (B : Ctx P w K mg base) : Meth K (He.ga K "Script") "check_index" (He.fAd K ("Script", some "check_index")) := He.meth_ok (B.2.2.1.fact 65 (f := .meth "Script" "check_index") rfl)
theorem ec_DividerError (B : Ctx P w K mg base) : EC K (He.ga K "DividerError") (He.fAd K ("DividerError", some "__init__")) := ecB_ok (exF B 0 (f := fun K => ecB K (He.ga K "DividerError") (He.fAd K ("DividerError", some "__init__"))) rfl)
theorem ec_InvalidDeed (B : Ctx P w K mg base) : EC K (He.ga K "InvalidDeed") (He.fAd K ("InvalidDeed", some "__init__")) := ecB_ok (exF B 1 (f := fun K => ecB K (He.ga K "InvalidDeed") (He.fAd K ("InvalidDeed", some "__init__"))) rfl)
theorem ec_InvalidName (B : Ctx P w K mg base) : EC K (He.ga K "InvalidName") (He.fAd K ("InvalidName", some "__init__")) := ecB_ok (exF B 2 (f := fun K => ecB K (He.ga K "InvalidName") (He.fAd K ("InvalidName", some "__init__"))) rfl)
theorem ec_InvalidFraction (B : Ctx P w K mg base) : EC K (He.ga K "InvalidFraction") (He.fAd K ("InvalidFraction", some "__init__")) := ecB_ok (exF B 3 (f := fun K => ecB K (He.ga K "InvalidFraction") (He.fAd K ("InvalidFraction", some "__init__"))) rfl)
theorem ec_UnknownDeed (B : Ctx P w K mg base) : EC K (He.ga K "UnknownDeed") (He.fAd K ("UnknownDeed", some "__init__")) := ecB_ok (exF B 4 (f := fun K => ecB K (He.ga K "UnknownDeed") (He.fAd K ("UnknownDeed", some "__init__"))) rfl)
theorem sc_DividerError : FnScope nSV nSV (defScope (inClass (top 2) 0)) := ⟨rfl, rfl, rfl, by decide +kernel, rfl, by decide +kernel, by decide +kernel⟩
theorem ini_DividerError (B : Ctx P w K mg base) : ∃ fd, FnOk P w K mg base (L2.CX P w) 1 (He.fAd K ("DividerError", some "__init__")) fd nSV (spIK K) ∧ Binds K fd nSV [] := by
  obtain ⟨fd, F⟩ := B.2.2.1.def_ 1 (d := d2_0) rfl
  refine ⟨fd, F.ok sc_DividerError spIK_len fun cdv A outer s H vs Q E hr h => ?_, F.bindsN fun _ _ _ _ _ _ us hl => match us, hl with | [_, _], _ => rfl⟩
  obtain ⟨a, C', v, rfl, T, no, ea, hq⟩ := h
  refine ⟨_, pss_cons (ps_expr (pe_veinit rfl (mbf_ValueError B) (ec_DividerError B).ve (pa_cons (pv 0) (pa_cons pe_str pa_nil))) rfl) (pss_one (ps_ost (pv 0) (pv 1))), ?_⟩
  exact ⟨.ref a, rfl, a, C', _, rfl, Nat.le_of_ble_eq_true rfl, T, ea, v, rfl, .ref a, rfl, a, C', rfl, T, no, .inl ⟨ea, hq⟩⟩
theorem sc_InvalidDeed : FnScope nSV nSV (defScope (inClass (top 3) 0)) := ⟨rfl, rfl, rfl, by decide +kernel, rfl, by decide +kernel, by decide +kernel⟩
theorem ini_InvalidDeed (B : Ctx P w K mg base) : ∃ fd, FnOk P w K mg base (L2.CX P w) 2 (He.fAd K ("InvalidDeed", some "__init__")) fd nSV (spIK K) ∧ Binds K fd nSV [] := by
  obtain ⟨fd, F⟩ := B.2.2.1.def_ 2 (d := d3_0) rfl
  obtain ⟨fB, FB, bB⟩ := ini_DividerError B
  refine ⟨fd, F.ok sc_InvalidDeed spIK_len fun cdv A outer s H vs Q E hr h => ?_, F.bindsN fun _ _ _ _ _ _ us hl => match us, hl with | [_, _], _ => rfl⟩
  obtain ⟨a, C', v, rfl, T, no, ea, hq⟩ := h
  refine ⟨_, pss_one (ps_expr (pe_cinit (ec_DividerError B) rfl (mg_DividerError B) FB hr bB (E := fun _ _ _ => False) (fun pins σ H s e' s' I c => passes_call (W := fun cls d _ H => E cls d H) (takes_of rfl rfl rfl rfl) (E := fun _ _ _ => False) (fun _ _ _ _ z => z.elim) pins σ H s e' s' I c) (pa_cons (pv 0) (pa_cons (pv 1) pa_nil))) rfl), ?_⟩
  exact ⟨.ref a, rfl, v, rfl, a, C', v, rfl, T, no, ea, hq⟩
theorem sc_InvalidName : FnScope nSV nSV (defScope (inClass (top 4) 0)) := ⟨rfl, rfl, rfl, by decide +kernel, rfl, by decide +kernel, by decide +kernel⟩
theorem ini_InvalidName (B : Ctx P w K mg base) : ∃ fd, FnOk P w K mg base (L2.CX P w) 2 (He.fAd K ("InvalidName", some "__init__")) fd nSV (spIK K) ∧ Binds K fd nSV [] := by
  obtain ⟨fd, F⟩ := B.2.2.1.def_ 3 (d := d4_0) rfl
  obtain ⟨fB, FB, bB⟩ := ini_DividerError B
  refine ⟨fd, F.ok sc_InvalidName spIK_len fun cdv A outer s H vs Q E hr h => ?_, F.bindsN fun _ _ _ _ _ _ us hl => match us, hl with | [_, _], _ => rfl⟩
  obtain ⟨a, C', v, rfl, T, no, ea, hq⟩ := h
  refine ⟨_, pss_one (ps_expr (pe_cinit (ec_DividerError B) rfl (mg_DividerError B) FB hr bB (E := fun _ _ _ => False) (fun pins σ H s e' s' I c => passes_call (W := fun cls d _ H => E cls d H) (takes_of rfl rfl rfl rfl) (E := fun _ _ _ => False) (fun _ _ _ _ z => z.elim) pins σ H s e' s' I c) (pa_cons (pv 0) (pa_cons (pv 1) pa_nil))) rfl), ?_⟩
  exact ⟨.ref a, rfl, v, rfl, a, C', v, rfl, T, no, ea, hq⟩
theorem sc_InvalidFraction : FnScope nSV nSV (defScope (inClass (top 5) 0)) := ⟨rfl, rfl, rfl, by decide +kernel, rfl, by decide +kernel, by decide +kernel⟩
theorem ini_InvalidFraction (B : Ctx P w K mg base) : ∃ fd, FnOk P w K mg base (L2.CX P w) 2 (He.fAd K ("InvalidFraction", some "__init__")) fd nSV (spIK K) ∧ Binds K fd nSV [] := by
  obtain ⟨fd, F⟩ := B.2.2.1.def_ 4 (d := d5_0) rfl
  obtain ⟨fB, FB, bB⟩ := ini_DividerError B
  refine ⟨fd, F.ok sc_InvalidFraction spIK_len fun cdv A outer s H vs Q E hr h => ?_, F.bindsN fun _ _ _ _ _ _ us hl => match us, hl with | [_, _], _ => rfl⟩
  obtain ⟨a, C', v, rfl, T, no, ea, hq⟩ := h
  refine ⟨_, pss_one (ps_expr (pe_cinit (ec_DividerError B) rfl (mg_DividerError B) FB hr bB (E := fun _ _ _ => False) (fun pins σ H s e' s' I c => passes_call (W := fun cls d _ H => E cls d H) (takes_of rfl rfl rfl rfl) (E := fun _ _ _ => False) (fun _ _ _ _ z => z.elim) pins σ H s e' s' I c) (pa_cons (pv 0) (pa_cons (pv 1) pa_nil))) rfl), ?_⟩
  exact ⟨.ref a, rfl, v, rfl, a, C', v, rfl, T, no, ea, hq⟩
theorem sc_UnknownDeed : FnScope nSV nSV (defScope (inClass (top 6) 0)) := ⟨rfl, rfl, rfl, by decide +kernel, rfl, by decide +kernel, by decide +kernel⟩
theorem ini_UnknownDeed (B : Ctx P w K mg base) : ∃ fd, FnOk P w K mg base (L2.CX P w) 2 (He.fAd K ("UnknownDeed", some "__init__")) fd nSV (spIK K) ∧ Binds K fd nSV [] := by
  obtain ⟨fd, F⟩ := B.2.2.1.def_ 5 (d := d6_0) rfl
  obtain ⟨fB, FB, bB⟩ := ini_DividerError B
  refine ⟨fd, F.ok sc_UnknownDeed spIK_len fun cdv A outer s H vs Q E hr h => ?_, F.bindsN fun _ _ _ _ _ _ us hl => match us, hl with | [_, _], _ => rfl⟩
  obtain ⟨a, C', v, rfl, T, no, ea, hq⟩ := h
  refine ⟨_, pss_one (ps_expr (pe_cinit (ec_DividerError B) rfl (mg_DividerError B) FB hr bB (E := fun _ _ _ => False) (fun pins σ H s e' s' I c => passes_call (W := fun cls d _ H => E cls d H) (takes_of rfl rfl rfl rfl) (E := fun _ _ _ => False) (fun _ _ _ _ z => z.elim) pins σ H s e' s' I c) (pa_cons (pv 0) (pa_cons (pv 1) pa_nil))) rfl), ?_⟩
  exact ⟨.ref a, rfl, v, rfl, a, C', v, rfl, T, no, ea, hq⟩

/-! ### _wall -/
abbrev N__wall : List Str := ["k"]
abbrev P__wall : List Str := ["k"]
def p0__wall (ρ : Rho) (Q : Bool → Rho → Zs → Prop) (X : Er → Rho → Zs → Prop) (z : Zs) : Prop := (tV (ep (.bl true))) ρ Q X z
def p1__wall (ρ : Rho) (Q : Fl → Rho → Zs → Prop) (X : Er → Rho → Zs → Prop) (z : Zs) : Prop := (ep .nx) ρ Q X z
def s__wall : E Fl := (sWhile p0__wall p1__wall)
def m__wall : List D → E0 D := dF 1 s__wall
theorem me__wall (a0 : D) (Q : D → Zs → Prop) (X : Er → Zs → Prop) (z : Zs) : m__wall [a0] Q X z = s__wall [Sl.fr a0] (outF Q) (fun e _ z => X e z) z := rfl
theorem sc__wall : FnScope N__wall P__wall (defScope (top 0)) := ⟨rfl, rfl, rfl, by decide +kernel, rfl, by decide +kernel, by decide +kernel⟩
theorem ok__wall (B : Ctx P w K mg base) : ∃ fd, GFn P w K mg base "_wall" 1 (He.fAd K ("_wall", none)) fd P__wall (spF K mg 1 m__wall) := by
  obtain ⟨fd, F⟩ := B.2.2.1.def_ 0 (d := d0) rfl
  refine ⟨fd, ⟨fnF_of (k := 0) F sc__wall fun cdv A outer s H E pa F0 kx => ?_, mg__wall B, F.kp, bg_pos (F.bindsN fun _ _ _ _ _ _ us hl => match us, hl with | [_], _ => rfl)⟩⟩
  exact (xss_one (xs_while kx (xt_tru rfl (XE.p xe_bl)) (xss_one xs_pass)))

/-! ### common_divisor -/
abbrev N_common_divisor : List Str := ["one", "other"]
abbrev P_common_divisor : List Str := ["one", "other"]
def p0_common_divisor (ρ : Rho) (Q : Bool → Rho → Zs → Prop) (X : Er → Rho → Zs → Prop) (z : Zs) : Prop := (eT (bO dNe (ePk 1) (ep (.int 0)))) ρ Q X z
def p1_common_divisor (ρ : Rho) (Q : Fl → Rho → Zs → Prop) (X : Er → Rho → Zs → Prop) (z : Zs) : Prop := (sPar 0 1 (aC (eVar 1) (aC (bO dMod (ePk 0) (ePk 1)) aN))) ρ Q X z
def s_common_divisor : E Fl := (sSeq (sPar 0 1 (aC (uO dAbs (ePk 0)) (aC (uO dAbs (ePk 1)) aN)))
    (sSeq (sWhile p0_common_divisor p1_common_divisor)
    (sRet (eVar 0))))
def m_common_divisor : List D → E0 D := dF 2 s_common_divisor
theorem me_common_divisor (a0 a1 : D) (Q : D → Zs → Prop) (X : Er → Zs → Prop) (z : Zs) : m_common_divisor [a0, a1] Q X z = s_common_divisor [Sl.fr a0, Sl.fr a1] (outF Q) (fun e _ z => X e z) z := rfl
theorem sc_common_divisor : FnScope N_common_divisor P_common_divisor (defScope (top 8)) := ⟨rfl, rfl, rfl, by decide +kernel, rfl, by decide +kernel, by decide +kernel⟩
theorem ok_common_divisor (B : Ctx P w K mg base) : ∃ fd, GFn P w K mg base "common_divisor" 1 (He.fAd K ("common_divisor", none)) fd P_common_divisor (spF K mg 2 m_common_divisor) := by
  obtain ⟨fd, F⟩ := B.2.2.1.def_ 6 (d := d8) rfl
  have mb_abs := mbf_abs B
  refine ⟨fd, ⟨fnF_of (k := 0) F sc_common_divisor fun cdv A outer s H E pa F0 kx => ?_, mg_common_divisor B, F.kp, bg_pos (F.bindsN fun _ _ _ _ _ _ us hl => match us, hl with | [_, _], _ => rfl)⟩⟩
  exact (xss_cons (xs_par 0 1 kx.calm kx.nd rfl rfl (by decide) rfl rfl (xa_cons (xe_abs rfl mb_abs (xp_var 0 (pv 0))) (xa_cons (xe_abs rfl mb_abs (xp_var 1 (pv 1))) xa_nil)) rfl) (xss_cons (xs_while kx (xt_cmp (op_ne2 kx.hu) o_ne (xp_var 1 (pv 1)) (XE.p xe_int) rfl) (xss_one (xs_par 0 1 kx.calm kx.nd rfl rfl (by decide) rfl rfl (xa_cons (xe_var 1 (pv 1)) (xa_cons (xe_op op_modN (o_mod) (xp_var 0 (pv 0)) (xp_var 1 (pv 1))) xa_nil)) rfl))) (xss_one (xs_ret (xe_var 0 (pv 0))))))

/-! ### fraction -/
abbrev N_fraction : List Str := ["above", "below", "share"]
abbrev P_fraction : List Str := ["above", "below"]
def s_fraction : E Fl := (sSeq (sIf (eT (bO dEq (ePk 1) (ep (.int 0))))
    (sRaise "InvalidFraction" (eTup (aC (eVar 0) (aC (eVar 1) aN))))
    (ep .nx))
    (sSeq (sAsg (eCall 2 2 0 m_common_divisor gL (aC (eVar 0) (aC (eVar 1) aN)) aN) (gN 2))
    (sSeq (sIf (eT (bO dLt (ePk 1) (ep (.int 0))))
    (sAsg (uO dNeg (ePk 2)) (gN 2))
    (ep .nx))
    (sRet (eTup (aC (bO dDiv (ePk 0) (ePk 2)) (aC (bO dDiv (ePk 1) (ePk 2)) aN)))))))
def m_fraction : List D → E0 D := dF 3 s_fraction
theorem me_fraction (a0 a1 : D) (Q : D → Zs → Prop) (X : Er → Zs → Prop) (z : Zs) : m_fraction [a0, a1] Q X z = s_fraction [Sl.fr a0, Sl.fr a1, Sl.no] (outF Q) (fun e _ z => X e z) z := rfl
theorem sc_fraction : FnScope N_fraction P_fraction (defScope (top 9)) := ⟨rfl, rfl, rfl, by decide +kernel, rfl, by decide +kernel, by decide +kernel⟩
theorem ok_fraction (B : Ctx P w K mg base) : ∃ fd, GFn P w K mg base "fraction" 4 (He.fAd K ("fraction", none)) fd P_fraction (spF K mg 2 m_fraction) := by
  obtain ⟨fd, F⟩ := B.2.2.1.def_ 7 (d := d9) rfl
  obtain ⟨fd_common_divisor, g_common_divisor⟩ := ok_common_divisor B
  obtain ⟨fI_InvalidFraction, i1_InvalidFraction, i2_InvalidFraction⟩ := ini_InvalidFraction B
  refine ⟨fd, ⟨fnF_of (k := 3) F sc_fraction fun cdv A outer s H E pa F0 kx => ?_, mg_fraction B, F.kp, bg_pos (F.bindsN fun _ _ _ _ _ _ us hl => match us, hl with | [_, _], _ => rfl)⟩⟩
  exact (xss_cons (xs_if (xt_cmp (op_eq2 kx.hu) o_eq (xp_var 1 (pv 1)) (XE.p xe_int) rfl) (xss_one (xs_raise kx (ec_InvalidFraction B) i1_InvalidFraction (by omega) i2_InvalidFraction rfl (mg_InvalidFraction B) (xe_tup (xa_cons (xe_var 0 (pv 0)) (xa_cons (xe_var 1 (pv 1)) xa_nil))))) xss_nil) (xss_cons (xs_set 2 (xe_call g_common_divisor.g kx (by omega) g_common_divisor.bg rfl (xa_cons (xe_var 0 (pv 0)) (xa_cons (xe_var 1 (pv 1)) xa_nil))) kx.nd rfl (by first | exact .inl rfl | exact .inr rfl)) (xss_cons (xs_if (xt_cmp op_lt2 o_lt (xp_var 1 (pv 1)) (XE.p xe_int) rfl) (xss_one (xs_set 2 (xe_neg (xp_var 2 (pv 2))) kx.nd rfl (by first | exact .inl rfl | exact .inr rfl))) xss_nil) (xss_one (xs_ret (xe_tup (xa_cons (xe_op op_divG (o_div) (xp_var 0 (pv 0)) (xp_var 2 (pv 2))) (xa_cons (xe_op op_divG (o_div) (xp_var 1 (pv 1)) (xp_var 2 (pv 2))) xa_nil))))))))

/-! ### fraction_order -/
abbrev N_fraction_order : List Str := ["one", "other", "left", "right"]
abbrev P_fraction_order : List Str := ["one", "other"]
def s_fraction_order : E Fl := (sSeq (sPar 2 3 (aC (bO dMul (bO dIx (ePk 0) (ep (.int 0))) (bO dIx (ePk 1) (ep (.int 1)))) (aC (bO dMul (bO dIx (ePk 1) (ep (.int 0))) (bO dIx (ePk 0) (ep (.int 1)))) aN)))
    (sSeq (sIf (eT (bO dEq (ePk 2) (ePk 3)))
    (sRet (ep (.int 0)))
    (ep .nx))
    (sRet (eIf (eT (bO dLt (ePk 2) (ePk 3))) (uO dNeg (ep (.int 1))) (ep (.int 1))))))
def m_fraction_order : List D → E0 D := dF 4 s_fraction_order
theorem me_fraction_order (a0 a1 : D) (Q : D → Zs → Prop) (X : Er → Zs → Prop) (z : Zs) : m_fraction_order [a0, a1] Q X z = s_fraction_order [Sl.fr a0, Sl.fr a1, Sl.no, Sl.no] (outF Q) (fun e _ z => X e z) z := rfl
theorem sc_fraction_order : FnScope N_fraction_order P_fraction_order (defScope (top 10)) := ⟨rfl, rfl, rfl, by decide +kernel, rfl, by decide +kernel, by decide +kernel⟩
theorem ok_fraction_order (B : Ctx P w K mg base) : ∃ fd, GFn P w K mg base "fraction_order" 1 (He.fAd K ("fraction_order", none)) fd P_fraction_order (spF K mg 2 m_fraction_order) := by
  obtain ⟨fd, F⟩ := B.2.2.1.def_ 8 (d := d10) rfl
  refine ⟨fd, ⟨fnF_of (k := 0) F sc_fraction_order fun cdv A outer s H E pa F0 kx => ?_, mg_fraction_order B, F.kp, bg_pos (F.bindsN fun _ _ _ _ _ _ us hl => match us, hl with | [_, _], _ => rfl)⟩⟩
  exact (xss_cons (xs_par 2 3 kx.calm kx.nd rfl rfl (by decide) rfl rfl (xa_cons (xe_op op_mulG (o_mul) (XE.p (xe_ix rfl (xp_var 0 (pv 0)) (XE.p xe_int) (fun _ _ => rfl))) (XE.p (xe_ix rfl (xp_var 1 (pv 1)) (XE.p xe_int) (fun _ _ => rfl)))) (xa_cons (xe_op op_mulG (o_mul) (XE.p (xe_ix rfl (xp_var 1 (pv 1)) (XE.p xe_int) (fun _ _ => rfl))) (XE.p (xe_ix rfl (xp_var 0 (pv 0)) (XE.p xe_int) (fun _ _ => rfl)))) xa_nil)) rfl) (xss_cons (xs_if (xt_cmp (op_eq2 kx.hu) o_eq (xp_var 2 (pv 2)) (xp_var 3 (pv 3)) rfl) (xss_one (xs_ret xe_int)) xss_nil) (xss_one (xs_ret (xe_if (xt_cmp op_lt2 o_lt (xp_var 2 (pv 2)) (xp_var 3 (pv 3)) rfl) (xe_neg (XE.p xe_int)) xe_int)))))

/-! ### is_name -/
abbrev N_is_name : List Str := ["text", "letter"]
abbrev P_is_name : List Str := ["text"]
def p0_is_name (ρ : Rho) (Q : D → Rho → Zs → Prop) (X : Er → Rho → Zs → Prop) (z : Zs) : Prop := (bO dIn (ePk 1) (ep (.str "abcdefghijklmnopqrstuvwxyz"))) ρ Q X z
def s_is_name : E Fl := (sRet (eAndV (eCh dLe dLe (ep (.int 1)) (uO dLen (ePk 0)) (ep (.int 8))) (uO dAll (oP (eLc [1] (eb (eVar 0) fStrI) (gN 1) (ep true) p0_is_name)))))
def m_is_name : List D → E0 D := dF 2 s_is_name
theorem me_is_name (a0 : D) (Q : D → Zs → Prop) (X : Er → Zs → Prop) (z : Zs) : m_is_name [a0] Q X z = s_is_name [Sl.fr a0, Sl.no] (outF Q) (fun e _ z => X e z) z := rfl
theorem sc_is_name : FnScope N_is_name P_is_name (defScope (top 15)) := ⟨rfl, rfl, rfl, by decide +kernel, rfl, by decide +kernel, by decide +kernel⟩
theorem ok_is_name (B : Ctx P w K mg base) : ∃ fd, GFn P w K mg base "is_name" 1 (He.fAd K ("is_name", none)) fd P_is_name (spF K mg 1 m_is_name) := by
  obtain ⟨fd, F⟩ := B.2.2.1.def_ 9 (d := d15) rfl
  have mb_all := mbf_all B
  have mb_len := mbf_len B
  refine ⟨fd, ⟨fnF_of (k := 0) F sc_is_name fun cdv A outer s H E pa F0 kx => ?_, mg_is_name B, F.kp, bg_pos (F.bindsN fun _ _ _ _ _ _ us hl => match us, hl with | [_], _ => rfl)⟩⟩
  exact (xss_one (xs_ret (xe_and (xe_chain op_le o_le op_le o_le (XE.p xe_int) (XE.p (xe_len rfl rfl mb_len (xp_var 0 (pv 0)))) (XE.p (xe_gint rfl (mg_LONGEST_NAME B)))) (xe_one (xe_all kx rfl mb_all (XO.p (xo_lc (own := [("letter", 1)]) kx (xi_str (xe_var 0 (pv 0))) (by kernel_rfl) (fun _ _ _ _ _ _ kx => (xg_name 1 (pg_name kx.nd rfl (by first | exact .inl rfl | exact .inr rfl)))) (fun _ _ _ _ _ _ kx => xts_nil) (fun _ _ _ _ _ _ kx => (xe_cmp (op_in2 kx.hu) o_in (xp_var 1 (pv 1)) (XE.p (xe_gstr rfl (mg_LETTERS B))) rfl)) (by decide))))))))

/-! ### deed_names -/
abbrev N_deed_names : List Str := ["deed"]
abbrev P_deed_names : List Str := ["deed"]
def s_deed_names : E Fl := (sRet (eb (ePk 0) fun d => eb (eb (bO dAdd (ep (.int 1)) (bO dIx (eb (bO dIx (ePk 0) (ep (.int 0))) fun y => eP (dKey tb_DEED_THINGS y)) (ep (.int 0)))) fPart) fun lo => eb (ep none) fun hi => fSlE d lo hi))
def m_deed_names : List D → E0 D := dF 1 s_deed_names
theorem me_deed_names (a0 : D) (Q : D → Zs → Prop) (X : Er → Zs → Prop) (z : Zs) : m_deed_names [a0] Q X z = s_deed_names [Sl.fr a0] (outF Q) (fun e _ z => X e z) z := rfl
theorem sc_deed_names : FnScope N_deed_names P_deed_names (defScope (top 16)) := ⟨rfl, rfl, rfl, by decide +kernel, rfl, by decide +kernel, by decide +kernel⟩
theorem ok_deed_names (B : Ctx P w K mg base) : ∃ fd, GFn P w K mg base "deed_names" 1 (He.fAd K ("deed_names", none)) fd P_deed_names (spF K mg 1 m_deed_names) := by
  obtain ⟨fd, F⟩ := B.2.2.1.def_ 10 (d := d16) rfl
  refine ⟨fd, ⟨fnF_of (k := 0) F sc_deed_names fun cdv A outer s H E pa F0 kx => ?_, mg_deed_names B, F.kp, bg_pos (F.bindsN fun _ _ _ _ _ _ us hl => match us, hl with | [_], _ => rfl)⟩⟩
  exact (xss_one (xs_ret (xe_slice rfl (xp_var 0 (pv 0)) (xpt_some (XE.p (xe_op op_add4 (o_add) (XE.p xe_int) (XE.p (xe_ix rfl (XE.p (xe_tab rfl (kd_DEED_THINGS B) (tab_DEED_THINGS B) rfl (mg_DEED_THINGS B) (XE.p (xe_ix rfl (xp_var 0 (pv 0)) (XE.p xe_int) (fun _ _ => rfl))) (fun _ _ => rfl))) (XE.p xe_int) (fun _ _ => rfl)))))) xpt_none)))

/-! ### checked_deed -/
abbrev N_checked_deed : List Str := ["deed", "name", "numbers", "many"]
abbrev P_checked_deed : List Str := ["deed"]
def p0_checked_deed (ρ : Rho) (Q : Fl → Rho → Zs → Prop) (X : Er → Rho → Zs → Prop) (z : Zs) : Prop := (sIf (tN (tV (eCall 1 1 0 m_is_name gL (aC (eVar 1) aN) aN)))
    (sRaise "InvalidName" (eVar 1))
    (ep .nx)) ρ Q X z
def s_checked_deed : E Fl := (sSeq (sIf (eOr (eT (bO dEq (ePk 0) (eTup aN))) (eT (eb (bO dIx (ePk 0) (ep (.int 0))) fun y => eP (dNotInK tb_DEED_THINGS y))))
    (sRaise "InvalidDeed" (eVar 0))
    (ep .nx))
    (sSeq (sAsg (eb (bO dIx (ePk 0) (ep (.int 0))) fun y => eP (dKey tb_DEED_THINGS y)) (gTp 2 (gCn (gN 2) (gCn (gN 3) gNl))))
    (sSeq (sIf (eT (bO dNe (uO dLen (ePk 0)) (bO dAdd (bO dAdd (ep (.int 1)) (ePk 2)) (ePk 3))))
    (sRaise "InvalidDeed" (eVar 0))
    (ep .nx))
    (sSeq (sIf (eAnd (eT (bO dEq (ePk 2) (ep (.int 1)))) (eT (bO dLt (bO dIx (ePk 0) (ep (.int 1))) (ep (.int 1)))))
    (sRaise "InvalidDeed" (eVar 0))
    (ep .nx))
    (sSeq (sFor (eb (eCall 1 1 0 m_deed_names gL (aC (eVar 0) aN) aN) fSeqI) (gN 1) p0_checked_deed)
    (sRet (eVar 0)))))))
def m_checked_deed : List D → E0 D := dF 4 s_checked_deed
theorem me_checked_deed (a0 : D) (Q : D → Zs → Prop) (X : Er → Zs → Prop) (z : Zs) : m_checked_deed [a0] Q X z = s_checked_deed [Sl.fr a0, Sl.no, Sl.no, Sl.no] (outF Q) (fun e _ z => X e z) z := rfl
theorem sc_checked_deed : FnScope N_checked_deed P_checked_deed (defScope (top 17)) := ⟨rfl, rfl, rfl, by decide +kernel, rfl, by decide +kernel, by decide +kernel⟩
theorem ok_checked_deed (B : Ctx P w K mg base) : ∃ fd, GFn P w K mg base "checked_deed" 4 (He.fAd K ("checked_deed", none)) fd P_checked_deed (spF K mg 1 m_checked_deed) := by
  obtain ⟨fd, F⟩ := B.2.2.1.def_ 11 (d := d17) rfl
  obtain ⟨fd_deed_names, g_deed_names⟩ := ok_deed_names B
  obtain ⟨fd_is_name, g_is_name⟩ := ok_is_name B
  obtain ⟨fI_InvalidDeed, i1_InvalidDeed, i2_InvalidDeed⟩ := ini_InvalidDeed B
  obtain ⟨fI_InvalidName, i1_InvalidName, i2_InvalidName⟩ := ini_InvalidName B
  have mb_len := mbf_len B
  refine ⟨fd, ⟨fnF_of (k := 3) F sc_checked_deed fun cdv A outer s H E pa F0 kx => ?_, mg_checked_deed B, F.kp, bg_pos (F.bindsN fun _ _ _ _ _ _ us hl => match us, hl with | [_], _ => rfl)⟩⟩
  exact (xss_cons (xs_if (XW.t (xw_or (xt_cmp (op_eq2 kx.hu) o_eq (xp_var 0 (pv 0)) (XE.p (xe_tup xa_nil)) rfl) (xw_or1 (xt_notInK (kd_DEED_THINGS B) (tab_DEED_THINGS B) rfl (mg_DEED_THINGS B) (XE.p (xe_ix rfl (xp_var 0 (pv 0)) (XE.p xe_int) (fun _ _ => rfl))))))) (xss_one (xs_raise kx (ec_InvalidDeed B) i1_InvalidDeed (by omega) i2_InvalidDeed rfl (mg_InvalidDeed B) (xe_var 0 (pv 0)))) xss_nil) (xss_cons (xs_asg (xe_tab rfl (kd_DEED_THINGS B) (tab_DEED_THINGS B) rfl (mg_DEED_THINGS B) (XE.p (xe_ix rfl (xp_var 0 (pv 0)) (XE.p xe_int) (fun _ _ => rfl))) (fun _ _ => rfl)) (xg_tup rfl kx.calm (xgs_cons (xg_name 2 (pg_name kx.nd rfl (by first | exact .inl rfl | exact .inr rfl))) (xgs_cons (xg_name 3 (pg_name kx.nd rfl (by first | exact .inl rfl | exact .inr rfl))) xgs_nil)))) (xss_cons (xs_if (xt_cmp (op_ne2 kx.hu) o_ne (XE.p (xe_len rfl rfl mb_len (xp_var 0 (pv 0)))) (XE.p (xe_op op_add4 (o_add) (XE.p (xe_op op_add4 (o_add) (XE.p xe_int) (xp_var 2 (pv 2)))) (xp_var 3 (pv 3)))) rfl) (xss_one (xs_raise kx (ec_InvalidDeed B) i1_InvalidDeed (by omega) i2_InvalidDeed rfl (mg_InvalidDeed B) (xe_var 0 (pv 0)))) xss_nil) (xss_cons (xs_if (XW.t (xw_and (xt_cmp (op_eq2 kx.hu) o_eq (xp_var 2 (pv 2)) (XE.p xe_int) rfl) (xw_and1 (xt_cmp op_lt2 o_lt (XE.p (xe_ix rfl (xp_var 0 (pv 0)) (XE.p xe_int) (fun _ _ => rfl))) (XE.p xe_int) rfl)))) (xss_one (xs_raise kx (ec_InvalidDeed B) i1_InvalidDeed (by omega) i2_InvalidDeed rfl (mg_InvalidDeed B) (xe_var 0 (pv 0)))) xss_nil) (xss_cons (xs_for kx (xi_seq rfl (xe_call g_deed_names.g kx (by omega) g_deed_names.bg rfl (xa_cons (xe_var 0 (pv 0)) xa_nil))) (xg_name 1 (pg_name kx.nd rfl (by first | exact .inl rfl | exact .inr rfl))) (xss_one (xs_if (xt_not (xt_tru rfl (XE.p (xe_call g_is_name.g kx (by omega) g_is_name.bg rfl (xa_cons (xe_var 1 (pv 1)) xa_nil))))) (xss_one (xs_raise kx (ec_InvalidName B) i1_InvalidName (by omega) i2_InvalidName rfl (mg_InvalidName B) (xe_var 1 (pv 1)))) xss_nil))) (xss_one (xs_ret (xe_var 0 (pv 0)))))))))

/-! ### kept_deeds -/
abbrev N_kept_deeds : List Str := ["deeds", "deed"]
abbrev P_kept_deeds : List Str := ["deeds"]
def p0_kept_deeds (ρ : Rho) (Q : D → Rho → Zs → Prop) (X : Er → Rho → Zs → Prop) (z : Zs) : Prop := (eCall 1 1 0 m_checked_deed gL (aC (eVar 1) aN) aN) ρ Q X z
def s_kept_deeds : E Fl := (sRetO (eLc [1] (eb (eVar 0) fSeqI) (gN 1) (ep true) p0_kept_deeds))
def m_kept_deeds : List D → E0 (List D) := dO 2 s_kept_deeds
theorem me_kept_deeds (a0 : D) (Q : List D → Zs → Prop) (X : Er → Zs → Prop) (z : Zs) : m_kept_deeds [a0] Q X z = s_kept_deeds [Sl.fr a0, Sl.no] (outO Q) (fun e _ z => X e z) z := rfl
theorem sc_kept_deeds : FnScope N_kept_deeds P_kept_deeds (defScope (top 18)) := ⟨rfl, rfl, rfl, by decide +kernel, rfl, by decide +kernel, by decide +kernel⟩
theorem ok_kept_deeds (B : Ctx P w K mg base) : ∃ fd, GFn P w K mg base "kept_deeds" 5 (He.fAd K ("kept_deeds", none)) fd P_kept_deeds (spO K mg 1 m_kept_deeds) := by
  obtain ⟨fd, F⟩ := B.2.2.1.def_ 12 (d := d18) rfl
  obtain ⟨fd_checked_deed, g_checked_deed⟩ := ok_checked_deed B
  refine ⟨fd, ⟨fnO_of (k := 4) F sc_kept_deeds fun cdv A outer s H E pa F0 kx => ?_, mg_kept_deeds B, F.kp, bg_pos (F.bindsN fun _ _ _ _ _ _ us hl => match us, hl with | [_], _ => rfl)⟩⟩
  exact (xss_one (xs_retO (xo_lc (own := [("deed", 1)]) kx (xi_seq rfl (xe_var 0 (pv 0))) (by kernel_rfl) (fun _ _ _ _ _ _ kx => (xg_name 1 (pg_name kx.nd rfl (by first | exact .inl rfl | exact .inr rfl)))) (fun _ _ _ _ _ _ kx => xts_nil) (fun _ _ _ _ _ _ kx => (xe_call g_checked_deed.g kx (by omega) g_checked_deed.bg rfl (xa_cons (xe_var 1 (pv 1)) xa_nil))) (by decide))))

/-! ### Script___init__ -/
abbrev N_Script___init__ : List Str := ["self", "deeds"]
abbrev P_Script___init__ : List Str := ["self", "deeds"]
def s_Script___init__ : E D := (oP (eCall 1 1 0 m_kept_deeds gL (aC (eVar 1) aN) aN))
def m_Script___init__ : List D → E0 (List D) := dN 1 s_Script___init__
theorem me_Script___init__ (a0 : D) (Q : List D → Zs → Prop) (X : Er → Zs → Prop) (z : Zs) : m_Script___init__ [a0] Q X z = s_Script___init__ [Sl.no, Sl.fr a0] (fun d _ z => Q [d] z) (fun e _ z => X e z) z := rfl
theorem sc_Script___init__ : FnScope N_Script___init__ P_Script___init__ (defScope (inClass (top 19) 0)) := ⟨rfl, rfl, rfl, by decide +kernel, rfl, by decide +kernel, by decide +kernel⟩
theorem ok_Script___init__ (B : Ctx P w K mg base) : ∃ fd, GCn P w K mg base "Script" (He.ga K "Script") 6 (He.fAd K ("Script", some "__init__")) fd P_Script___init__ (spN K mg ["kept"] 1 m_Script___init__) ∧ BG K fd P_Script___init__ ["deeds"] 1 gKW gKW := by
  obtain ⟨fd, F⟩ := B.2.2.1.def_ 13 (d := d19_0) rfl
  obtain ⟨fd_kept_deeds, g_kept_deeds⟩ := ok_kept_deeds B
  refine ⟨fd, ⟨fnN1_of (k := 5) (N := N_Script___init__.tail) (ps := P_Script___init__.tail) F sc_Script___init__ rfl (fun cdv A outer s H E => pv 0) (fun cdv A outer s H E => rfl) fun cdv A outer s H E pa F0 a kx => ?_, mg_Script B, mkr_Script B, cls_Script B, bg_pos (F.bindsN fun _ _ _ _ _ _ us hl => match us, hl with | [_, _], _ => rfl)⟩, bg_kwI F fun _ _ _ _ _ _ us ws h1 h2 => match us, ws, h1, h2 with | [_], [_], _, _ => rfl⟩
  exact (XO.fz (xo_call g_kept_deeds.g kx (by omega) g_kept_deeds.bg rfl (xa_cons (xe_var 1 (pv 1)) xa_nil)))

/-! ### Script_deeds -/
abbrev N_Script_deeds : List Str := ["self"]
abbrev P_Script_deeds : List Str := ["self"]
def s_Script_deeds : E Fl := (sRetO (eb (uO (dFld "Script" "kept") (ePk 0)) fList))
def m_Script_deeds : List D → E0 (List D) := dO 1 s_Script_deeds
theorem me_Script_deeds (a0 : D) (Q : List D → Zs → Prop) (X : Er → Zs → Prop) (z : Zs) : m_Script_deeds [a0] Q X z = s_Script_deeds [Sl.fr a0] (outO Q) (fun e _ z => X e z) z := rfl
theorem sc_Script_deeds : FnScope N_Script_deeds P_Script_deeds (defScope (inClass (top 19) 1)) := ⟨rfl, rfl, rfl, by decide +kernel, rfl, by decide +kernel, by decide +kernel⟩
theorem ok_Script_deeds (B : Ctx P w K mg base) : ∃ fd, GMn P w K mg base 1 (getAd K ("Script", some "deeds")) fd P_Script_deeds (spO K mg 1 m_Script_deeds) := by
  obtain ⟨fd, F⟩ := B.2.2.get 0 (d := d19_1) rfl
  have mb_list := mbf_list B
  refine ⟨fd, ⟨fnO_of (k := 0) F sc_Script_deeds fun cdv A outer s H E pa F0 kx => ?_, bg_pos (F.bindsN fun _ _ _ _ _ _ us hl => match us, hl with | [_], _ => rfl)⟩⟩
  exact (xss_one (xs_retO (xo_list kx rfl mb_list (XE.p (xe_fld kx (mg_Script B) (cls_Script B) (noat_Script B "kept" (by simp)) (xp_var 0 (pv 0)))))))

/-! ### Script_check_index -/
abbrev N_Script_check_index : List Str := ["self", "index", "behind"]
abbrev P_Script_check_index : List Str := ["self", "index", "behind"]
def s_Script_check_index : E Fl := (sIf (tN (eT (eCh dLe dLt (ep (.int 0)) (ePk 1) (bO dSub (uO dLen (uO (dFld "Script" "kept") (ePk 0))) (ePk 2)))))
    (sRaise "UnknownDeed" (eVar 1))
    (ep .nx))
def m_Script_check_index : List D → E0 D := dF 3 s_Script_check_index
theorem me_Script_check_index (a0 a1 a2 : D) (Q : D → Zs → Prop) (X : Er → Zs → Prop) (z : Zs) : m_Script_check_index [a0, a1, a2] Q X z = s_Script_check_index [Sl.fr a0, Sl.fr a1, Sl.fr a2] (outF Q) (fun e _ z => X e z) z := rfl
theorem sc_Script_check_index : FnScope N_Script_check_index P_Script_check_index (defScope (inClass (top 19) 3)) := ⟨rfl, rfl, rfl, by decide +kernel, rfl, by decide +kernel, by decide +kernel⟩
theorem ok_Script_check_index (B : Ctx P w K mg base) : ∃ fd, GMn P w K mg base 4 (He.fAd K ("Script", some "check_index")) fd P_Script_check_index (spF K mg 3 m_Script_check_index) := by
  obtain ⟨fd, F⟩ := B.2.2.1.def_ 15 (d := d19_3) rfl
  obtain ⟨fI_UnknownDeed, i1_UnknownDeed, i2_UnknownDeed⟩ := ini_UnknownDeed B
  have mb_len := mbf_len B
  refine ⟨fd, ⟨fnF_of (k := 3) F sc_Script_check_index fun cdv A outer s H E pa F0 kx => ?_, bg_pos (F.bindsN fun _ _ _ _ _ _ us hl => match us, hl with | [_, _, _], _ => rfl)⟩⟩
  exact (xss_one (xs_if (xt_not (xt_chain op_le o_le op_lt2 o_lt (XE.p xe_int) (xp_var 1 (pv 1)) (XE.p (xe_op op_sub (o_sub) (XE.p (xe_len rfl rfl mb_len (XE.p (xe_fld kx (mg_Script B) (cls_Script B) (noat_Script B "kept" (by simp)) (xp_var 0 (pv 0)))))) (xp_var 2 (pv 2)))))) (xss_one (xs_raise kx (ec_UnknownDeed B) i1_UnknownDeed (by omega) i2_UnknownDeed rfl (mg_UnknownDeed B) (xe_var 1 (pv 1)))) xss_nil))

/-! ### cut_at -/
abbrev N_cut_at : List Str := ["stretch", "place", "left_in", "low", "low_in", "high", "high_in", "from_low", "from_high"]
abbrev P_cut_at : List Str := ["stretch", "place", "left_in"]
def s_cut_at : E Fl := (sSeq (sAsg (eVar 0) (gTp 4 (gCn (gN 3) (gCn (gN 4) (gCn (gN 5) (gCn (gN 6) gNl))))))
    (sSeq (sPar 7 8 (aC (eCall 2 2 0 m_fraction_order gL (aC (eVar 1) (aC (eVar 3) aN)) aN) (aC (eCall 2 2 0 m_fraction_order gL (aC (eVar 1) (aC (eVar 5) aN)) aN) aN)))
    (sSeq (sIf (eOr (eT (bO dLt (ePk 7) (ep (.int 0)))) (eAnd (eT (bO dEq (ePk 7) (ep (.int 0)))) (tN (eAnd (tV (ePk 4)) (tV (ePk 2))))))
    (sRet (eTup (aC (ep .non) (aC (eVar 0) aN))))
    (ep .nx))
    (sSeq (sIf (eOr (eT (bO dGt (ePk 8) (ep (.int 0)))) (eAnd (eT (bO dEq (ePk 8) (ep (.int 0)))) (eOr (tV (ePk 2)) (tN (tV (ePk 6))))))
    (sRet (eTup (aC (eVar 0) (aC (ep .non) aN))))
    (ep .nx))
    (sRet (eTup (aC (eTup (aC (eVar 3) (aC (eVar 4) (aC (eVar 1) (aC (eVar 2) aN))))) (aC (eTup (aC (eVar 1) (aC (uO dNot (ePk 2)) (aC (eVar 5) (aC (eVar 6) aN))))) aN))))))))
def m_cut_at : List D → E0 D := dF 9 s_cut_at
theorem me_cut_at (a0 a1 a2 : D) (Q : D → Zs → Prop) (X : Er → Zs → Prop) (z : Zs) : m_cut_at [a0, a1, a2] Q X z = s_cut_at [Sl.fr a0, Sl.fr a1, Sl.fr a2, Sl.no, Sl.no, Sl.no, Sl.no, Sl.no, Sl.no] (outF Q) (fun e _ z => X e z) z := rfl
theorem sc_cut_at : FnScope N_cut_at P_cut_at (defScope (top 22)) := ⟨rfl, rfl, rfl, by decide +kernel, rfl, by decide +kernel, by decide +kernel⟩
theorem ok_cut_at (B : Ctx P w K mg base) : ∃ fd, GFn P w K mg base "cut_at" 2 (He.fAd K ("cut_at", none)) fd P_cut_at (spF K mg 3 m_cut_at) := by
  obtain ⟨fd, F⟩ := B.2.2.1.def_ 23 (d := d22) rfl
  obtain ⟨fd_fraction_order, g_fraction_order⟩ := ok_fraction_order B
  refine ⟨fd, ⟨fnF_of (k := 1) F sc_cut_at fun cdv A outer s H E pa F0 kx => ?_, mg_cut_at B, F.kp, bg_pos (F.bindsN fun _ _ _ _ _ _ us hl => match us, hl with | [_, _, _], _ => rfl)⟩⟩
  exact (xss_cons (xs_asg (xe_var 0 (pv 0)) (xg_tup rfl kx.calm (xgs_cons (xg_name 3 (pg_name kx.nd rfl (by first | exact .inl rfl | exact .inr rfl))) (xgs_cons (xg_name 4 (pg_name kx.nd rfl (by first | exact .inl rfl | exact .inr rfl))) (xgs_cons (xg_name 5 (pg_name kx.nd rfl (by first | exact .inl rfl | exact .inr rfl))) (xgs_cons (xg_name 6 (pg_name kx.nd rfl (by first | exact .inl rfl | exact .inr rfl))) xgs_nil)))))) (xss_cons (xs_par 7 8 kx.calm kx.nd rfl rfl (by decide) rfl rfl (xa_cons (xe_call g_fraction_order.g kx (by omega) g_fraction_order.bg rfl (xa_cons (xe_var 1 (pv 1)) (xa_cons (xe_var 3 (pv 3)) xa_nil))) (xa_cons (xe_call g_fraction_order.g kx (by omega) g_fraction_order.bg rfl (xa_cons (xe_var 1 (pv 1)) (xa_cons (xe_var 5 (pv 5)) xa_nil))) xa_nil)) rfl) (xss_cons (xs_if (XW.t (xw_or (xt_cmp op_lt2 o_lt (xp_var 7 (pv 7)) (XE.p xe_int) rfl) (xw_or1 (XW.t (xw_and (xt_cmp (op_eq2 kx.hu) o_eq (xp_var 7 (pv 7)) (XE.p xe_int) rfl) (xw_and1 (xt_not (XW.t (xw_and (xt_tru rfl (xp_var 4 (pv 4))) (xw_and1 (xt_tru rfl (xp_var 2 (pv 2))))))))))))) (xss_one (xs_ret (xe_tup (xa_cons xe_non (xa_cons (xe_var 0 (pv 0)) xa_nil))))) xss_nil) (xss_cons (xs_if (XW.t (xw_or (xt_cmp op_gt o_gt (xp_var 8 (pv 8)) (XE.p xe_int) rfl) (xw_or1 (XW.t (xw_and (xt_cmp (op_eq2 kx.hu) o_eq (xp_var 8 (pv 8)) (XE.p xe_int) rfl) (xw_and1 (XW.t (xw_or (xt_tru rfl (xp_var 2 (pv 2))) (xw_or1 (xt_not (xt_tru rfl (xp_var 6 (pv 6))))))))))))) (xss_one (xs_ret (xe_tup (xa_cons (xe_var 0 (pv 0)) (xa_cons xe_non xa_nil))))) xss_nil) (xss_one (xs_ret (xe_tup (xa_cons (xe_tup (xa_cons (xe_var 3 (pv 3)) (xa_cons (xe_var 4 (pv 4)) (xa_cons (xe_var 1 (pv 1)) (xa_cons (xe_var 2 (pv 2)) xa_nil))))) (xa_cons (xe_tup (xa_cons (xe_var 1 (pv 1)) (xa_cons (xe_not (xp_var 2 (pv 2))) (xa_cons (xe_var 5 (pv 5)) (xa_cons (xe_var 6 (pv 6)) xa_nil))))) xa_nil)))))))))

/-! ### form_root -/
abbrev N_form_root : List Str := ["form"]
abbrev P_form_root : List Str := ["form"]
def s_form_root : E Fl := (sRet (eCall 2 2 0 m_fraction gL (aC (uO dNeg (bO dIx (ePk 0) (ep (.int 0)))) (aC (bO dIx (ePk 0) (ep (.int 1))) aN)) aN))
def m_form_root : List D → E0 D := dF 1 s_form_root
theorem me_form_root (a0 : D) (Q : D → Zs → Prop) (X : Er → Zs → Prop) (z : Zs) : m_form_root [a0] Q X z = s_form_root [Sl.fr a0] (outF Q) (fun e _ z => X e z) z := rfl
theorem sc_form_root : FnScope N_form_root P_form_root (defScope (top 23)) := ⟨rfl, rfl, rfl, by decide +kernel, rfl, by decide +kernel, by decide +kernel⟩
theorem ok_form_root (B : Ctx P w K mg base) : ∃ fd, GFn P w K mg base "form_root" 5 (He.fAd K ("form_root", none)) fd P_form_root (spF K mg 1 m_form_root) := by
  obtain ⟨fd, F⟩ := B.2.2.1.def_ 24 (d := d23) rfl
  obtain ⟨fd_fraction, g_fraction⟩ := ok_fraction B
  refine ⟨fd, ⟨fnF_of (k := 4) F sc_form_root fun cdv A outer s H E pa F0 kx => ?_, mg_form_root B, F.kp, bg_pos (F.bindsN fun _ _ _ _ _ _ us hl => match us, hl with | [_], _ => rfl)⟩⟩
  exact (xss_one (xs_ret (xe_call g_fraction.g kx (by omega) g_fraction.bg rfl (xa_cons (xe_neg (XE.p (xe_ix rfl (xp_var 0 (pv 0)) (XE.p xe_int) (fun _ _ => rfl)))) (xa_cons (xe_ix rfl (xp_var 0 (pv 0)) (XE.p xe_int) (fun _ _ => rfl)) xa_nil)))))

/-! ### at_least_parts -/
abbrev N_at_least_parts : List Str := ["stretch", "form", "rows", "whole", "part", "ahead", "behind", "row"]
abbrev P_at_least_parts : List Str := ["stretch", "form"]
def p0_at_least_parts (ρ : Rho) (Q : D → Rho → Zs → Prop) (X : Er → Rho → Zs → Prop) (z : Zs) : Prop := (eVar 7) ρ Q X z
def p1_at_least_parts (ρ : Rho) (Q : Bool → Rho → Zs → Prop) (X : Er → Rho → Zs → Prop) (z : Zs) : Prop := (eT (bO dNotN (bO dIx (ePk 7) (ep (.int 0))) (ep .non))) ρ Q X z
def s_at_least_parts : E Fl := (sSeq (sAsg (eVar 1) (gTp 2 (gCn (gN 3) (gCn (gN 4) gNl))))
    (sSeq (sIf (eT (bO dEq (ePk 4) (ep (.int 0))))
    (sRetO (eLst (aC (eTup (aC (eVar 0) (aC (bO dGe (ePk 3) (ep (.int 0))) aN))) aN)))
    (ep .nx))
    (sSeq (sAsg (eCall 3 3 0 m_cut_at gL (aC (eVar 0) (aC (eCall 1 1 0 m_form_root gL (aC (eVar 1) aN) aN) (aC (bO dLt (ePk 4) (ep (.int 0))) aN))) aN) (gTp 2 (gCn (gN 5) (gCn (gN 6) gNl))))
    (sSeq (sAsg (oP (eLst (aC (eTup (aC (eVar 5) (aC (bO dLt (ePk 4) (ep (.int 0))) aN))) (aC (eTup (aC (eVar 6) (aC (bO dGt (ePk 4) (ep (.int 0))) aN))) aN)))) (gN 2))
    (sRetO (eLc [7] (eb (eVar 2) fSeqI) (gN 7) p1_at_least_parts p0_at_least_parts))))))
def m_at_least_parts : List D → E0 (List D) := dO 8 s_at_least_parts
theorem me_at_least_parts (a0 a1 : D) (Q : List D → Zs → Prop) (X : Er → Zs → Prop) (z : Zs) : m_at_least_parts [a0, a1] Q X z = s_at_least_parts [Sl.fr a0, Sl.fr a1, Sl.no, Sl.no, Sl.no, Sl.no, Sl.no, Sl.no] (outO Q) (fun e _ z => X e z) z := rfl
theorem sc_at_least_parts : FnScope N_at_least_parts P_at_least_parts (defScope (top 24)) := ⟨rfl, rfl, rfl, by decide +kernel, rfl, by decide +kernel, by decide +kernel⟩
theorem ok_at_least_parts (B : Ctx P w K mg base) : ∃ fd, GFn P w K mg base "at_least_parts" 6 (He.fAd K ("at_least_parts", none)) fd P_at_least_parts (spO K mg 2 m_at_least_parts) := by
  obtain ⟨fd, F⟩ := B.2.2.1.def_ 25 (d := d24) rfl
  obtain ⟨fd_cut_at, g_cut_at⟩ := ok_cut_at B
  obtain ⟨fd_form_root, g_form_root⟩ := ok_form_root B
  refine ⟨fd, ⟨fnO_of (k := 5) F sc_at_least_parts fun cdv A outer s H E pa F0 kx => ?_, mg_at_least_parts B, F.kp, bg_pos (F.bindsN fun _ _ _ _ _ _ us hl => match us, hl with | [_, _], _ => rfl)⟩⟩
  exact (xss_cons (xs_asg (xe_var 1 (pv 1)) (xg_tup rfl kx.calm (xgs_cons (xg_name 3 (pg_name kx.nd rfl (by first | exact .inl rfl | exact .inr rfl))) (xgs_cons (xg_name 4 (pg_name kx.nd rfl (by first | exact .inl rfl | exact .inr rfl))) xgs_nil)))) (xss_cons (xs_if (xt_cmp (op_eq2 kx.hu) o_eq (xp_var 4 (pv 4)) (XE.p xe_int) rfl) (xss_one (xs_retO (xo_lst (xa_cons (xe_tup (xa_cons (xe_var 0 (pv 0)) (xa_cons (xe_cmp op_ge o_ge (xp_var 3 (pv 3)) (XE.p xe_int) rfl) xa_nil))) xa_nil)))) xss_nil) (xss_cons (xs_asg (xe_call g_cut_at.g kx (by omega) g_cut_at.bg rfl (xa_cons (xe_var 0 (pv 0)) (xa_cons (xe_call g_form_root.g kx (by omega) g_form_root.bg rfl (xa_cons (xe_var 1 (pv 1)) xa_nil)) (xa_cons (xe_cmp op_lt2 o_lt (xp_var 4 (pv 4)) (XE.p xe_int) rfl) xa_nil)))) (xg_tup rfl kx.calm (xgs_cons (xg_name 5 (pg_name kx.nd rfl (by first | exact .inl rfl | exact .inr rfl))) (xgs_cons (xg_name 6 (pg_name kx.nd rfl (by first | exact .inl rfl | exact .inr rfl))) xgs_nil)))) (xss_cons (xs_set 2 (XO.fz (xo_lst (xa_cons (xe_tup (xa_cons (xe_var 5 (pv 5)) (xa_cons (xe_cmp op_lt2 o_lt (xp_var 4 (pv 4)) (XE.p xe_int) rfl) xa_nil))) (xa_cons (xe_tup (xa_cons (xe_var 6 (pv 6)) (xa_cons (xe_cmp op_gt o_gt (xp_var 4 (pv 4)) (XE.p xe_int) rfl) xa_nil))) xa_nil)))) kx.nd rfl (by first | exact .inl rfl | exact .inr rfl)) (xss_one (xs_retO (xo_lc (own := [("row", 7)]) kx (xi_seq rfl (xe_var 2 (pv 2))) (by kernel_rfl) (fun _ _ _ _ _ _ kx => (xg_name 7 (pg_name kx.nd rfl (by first | exact .inl rfl | exact .inr rfl)))) (fun _ _ _ _ _ _ kx => (xts_one (xt_cmp op_notN o_notN (XE.p (xe_ix rfl (xp_var 7 (pv 7)) (XE.p xe_int) (fun _ _ => rfl))) (XE.p xe_non) rfl))) (fun _ _ _ _ _ _ kx => (xe_var 7 (pv 7))) (by decide))))))))

/-! ### sign_parts -/
abbrev N_sign_parts : List Str := ["stretch", "form", "rows", "whole", "part", "root", "rising", "ahead", "later", "middle", "behind", "row"]
abbrev P_sign_parts : List Str := ["stretch", "form"]
def p0_sign_parts (ρ : Rho) (Q : D → Rho → Zs → Prop) (X : Er → Rho → Zs → Prop) (z : Zs) : Prop := (eVar 11) ρ Q X z
def p1_sign_parts (ρ : Rho) (Q : Bool → Rho → Zs → Prop) (X : Er → Rho → Zs → Prop) (z : Zs) : Prop := (eT (bO dNotN (bO dIx (ePk 11) (ep (.int 0))) (ep .non))) ρ Q X z
def s_sign_parts : E Fl := (sSeq (sAsg (eVar 1) (gTp 2 (gCn (gN 3) (gCn (gN 4) gNl))))
    (sSeq (sIf (eT (bO dEq (ePk 4) (ep (.int 0))))
    (sRetO (eLst (aC (eTup (aC (eVar 0) (aC (bO dSub (uO dInt (bO dGt (ePk 3) (ep (.int 0)))) (uO dInt (bO dLt (ePk 3) (ep (.int 0))))) aN))) aN)))
    (ep .nx))
    (sSeq (sPar 5 6 (aC (eCall 1 1 0 m_form_root gL (aC (eVar 1) aN) aN) (aC (eIf (eT (bO dGt (ePk 4) (ep (.int 0)))) (ep (.int 1)) (uO dNeg (ep (.int 1)))) aN)))
    (sSeq (sAsg (eCall 3 3 0 m_cut_at gL (aC (eVar 0) (aC (eVar 5) (aC (ep (.bl false)) aN))) aN) (gTp 2 (gCn (gN 7) (gCn (gN 8) gNl))))
    (sSeq (sAsg (oP (eLst (aC (eTup (aC (eVar 7) (aC (uO dNeg (ePk 6)) aN))) aN))) (gN 2))
    (sSeq (sIf (eT (bO dNotN (ePk 8) (ep .non)))
    (sSeq (sAsg (eCall 3 3 0 m_cut_at gL (aC (eVar 8) (aC (eVar 5) (aC (ep (.bl true)) aN))) aN) (gTp 2 (gCn (gN 9) (gCn (gN 10) gNl))))
    (sAsg (oP (bC (ePk 2) (oP (eLst (aC (eTup (aC (eVar 9) (aC (ep (.int 0)) aN))) (aC (eTup (aC (eVar 10) (aC (eVar 6) aN))) aN)))))) (gN 2)))
    (ep .nx))
    (sRetO (eLc [11] (eb (eVar 2) fSeqI) (gN 11) p1_sign_parts p0_sign_parts))))))))
def m_sign_parts : List D → E0 (List D) := dO 12 s_sign_parts
theorem me_sign_parts (a0 a1 : D) (Q : List D → Zs → Prop) (X : Er → Zs → Prop) (z : Zs) : m_sign_parts [a0, a1] Q X z = s_sign_parts [Sl.fr a0, Sl.fr a1, Sl.no, Sl.no, Sl.no, Sl.no, Sl.no, Sl.no, Sl.no, Sl.no, Sl.no, Sl.no] (outO Q) (fun e _ z => X e z) z := rfl
theorem sc_sign_parts : FnScope N_sign_parts P_sign_parts (defScope (top 25)) := ⟨rfl, rfl, rfl, by decide +kernel, rfl, by decide +kernel, by decide +kernel⟩
theorem ok_sign_parts (B : Ctx P w K mg base) : ∃ fd, GFn P w K mg base "sign_parts" 6 (He.fAd K ("sign_parts", none)) fd P_sign_parts (spO K mg 2 m_sign_parts) := by
  obtain ⟨fd, F⟩ := B.2.2.1.def_ 26 (d := d25) rfl
  obtain ⟨fd_cut_at, g_cut_at⟩ := ok_cut_at B
  obtain ⟨fd_form_root, g_form_root⟩ := ok_form_root B
  have mb_int := mbf_int B
  refine ⟨fd, ⟨fnO_of (k := 5) F sc_sign_parts fun cdv A outer s H E pa F0 kx => ?_, mg_sign_parts B, F.kp, bg_pos (F.bindsN fun _ _ _ _ _ _ us hl => match us, hl with | [_, _], _ => rfl)⟩⟩
  exact (xss_cons (xs_asg (xe_var 1 (pv 1)) (xg_tup rfl kx.calm (xgs_cons (xg_name 3 (pg_name kx.nd rfl (by first | exact .inl rfl | exact .inr rfl))) (xgs_cons (xg_name 4 (pg_name kx.nd rfl (by first | exact .inl rfl | exact .inr rfl))) xgs_nil)))) (xss_cons (xs_if (xt_cmp (op_eq2 kx.hu) o_eq (xp_var 4 (pv 4)) (XE.p xe_int) rfl) (xss_one (xs_retO (xo_lst (xa_cons (xe_tup (xa_cons (xe_var 0 (pv 0)) (xa_cons (xe_op op_sub (o_sub) (XE.p (xe_int1 rfl mb_int (XE.p (xe_cmp op_gt o_gt (xp_var 3 (pv 3)) (XE.p xe_int) rfl)))) (XE.p (xe_int1 rfl mb_int (XE.p (xe_cmp op_lt2 o_lt (xp_var 3 (pv 3)) (XE.p xe_int) rfl))))) xa_nil))) xa_nil)))) xss_nil) (xss_cons (xs_par 5 6 kx.calm kx.nd rfl rfl (by decide) rfl rfl (xa_cons (xe_call g_form_root.g kx (by omega) g_form_root.bg rfl (xa_cons (xe_var 1 (pv 1)) xa_nil)) (xa_cons (xe_if (xt_cmp op_gt o_gt (xp_var 4 (pv 4)) (XE.p xe_int) rfl) xe_int (xe_neg (XE.p xe_int))) xa_nil)) rfl) (xss_cons (xs_asg (xe_call g_cut_at.g kx (by omega) g_cut_at.bg rfl (xa_cons (xe_var 0 (pv 0)) (xa_cons (xe_var 5 (pv 5)) (xa_cons xe_bl xa_nil)))) (xg_tup rfl kx.calm (xgs_cons (xg_name 7 (pg_name kx.nd rfl (by first | exact .inl rfl | exact .inr rfl))) (xgs_cons (xg_name 8 (pg_name kx.nd rfl (by first | exact .inl rfl | exact .inr rfl))) xgs_nil)))) (xss_cons (xs_set 2 (XO.fz (xo_lst (xa_cons (xe_tup (xa_cons (xe_var 7 (pv 7)) (xa_cons (xe_neg (xp_var 6 (pv 6))) xa_nil))) xa_nil))) kx.nd rfl (by first | exact .inl rfl | exact .inr rfl)) (xss_cons (xs_if (xt_cmp op_notN o_notN (xp_var 8 (pv 8)) (XE.p xe_non) rfl) (xss_cons (xs_asg (xe_call g_cut_at.g kx (by omega) g_cut_at.bg rfl (xa_cons (xe_var 8 (pv 8)) (xa_cons (xe_var 5 (pv 5)) (xa_cons xe_bl xa_nil)))) (xg_tup rfl kx.calm (xgs_cons (xg_name 9 (pg_name kx.nd rfl (by first | exact .inl rfl | exact .inr rfl))) (xgs_cons (xg_name 10 (pg_name kx.nd rfl (by first | exact .inl rfl | exact .inr rfl))) xgs_nil)))) (xss_one (xs_set 2 (XO.fz (xo_op op_add4 o_cat (xp_var 2 (pv 2)) (XO.p (xo_lst (xa_cons (xe_tup (xa_cons (xe_var 9 (pv 9)) (xa_cons xe_int xa_nil))) (xa_cons (xe_tup (xa_cons (xe_var 10 (pv 10)) (xa_cons (xe_var 6 (pv 6)) xa_nil))) xa_nil)))))) kx.nd rfl (by first | exact .inl rfl | exact .inr rfl)))) xss_nil) (xss_one (xs_retO (xo_lc (own := [("row", 11)]) kx (xi_seq rfl (xe_var 2 (pv 2))) (by kernel_rfl) (fun _ _ _ _ _ _ kx => (xg_name 11 (pg_name kx.nd rfl (by first | exact .inl rfl | exact .inr rfl)))) (fun _ _ _ _ _ _ kx => (xts_one (xt_cmp op_notN o_notN (XE.p (xe_ix rfl (xp_var 11 (pv 11)) (XE.p xe_int) (fun _ _ => rfl))) (XE.p xe_non) rfl))) (fun _ _ _ _ _ _ kx => (xe_var 11 (pv 11))) (by decide))))))))))

/-! ### form_plus -/
abbrev N_form_plus : List Str := ["one", "other", "times"]
abbrev P_form_plus : List Str := ["one", "other", "times"]
def s_form_plus : E Fl := (sRet (eTup (aC (bO dAdd (bO dIx (ePk 0) (ep (.int 0))) (bO dMul (ePk 2) (bO dIx (ePk 1) (ep (.int 0))))) (aC (bO dAdd (bO dIx (ePk 0) (ep (.int 1))) (bO dMul (ePk 2) (bO dIx (ePk 1) (ep (.int 1))))) aN))))
def m_form_plus : List D → E0 D := dF 3 s_form_plus
theorem me_form_plus (a0 a1 a2 : D) (Q : D → Zs → Prop) (X : Er → Zs → Prop) (z : Zs) : m_form_plus [a0, a1, a2] Q X z = s_form_plus [Sl.fr a0, Sl.fr a1, Sl.fr a2] (outF Q) (fun e _ z => X e z) z := rfl
theorem sc_form_plus : FnScope N_form_plus P_form_plus (defScope (top 27)) := ⟨rfl, rfl, rfl, by decide +kernel, rfl, by decide +kernel, by decide +kernel⟩
theorem ok_form_plus (B : Ctx P w K mg base) : ∃ fd, GFn P w K mg base "form_plus" 1 (He.fAd K ("form_plus", none)) fd P_form_plus (spF K mg 3 m_form_plus) := by
  obtain ⟨fd, F⟩ := B.2.2.1.def_ 27 (d := d27) rfl
  refine ⟨fd, ⟨fnF_of (k := 0) F sc_form_plus fun cdv A outer s H E pa F0 kx => ?_, mg_form_plus B, F.kp, bg_pos (binds_full F (List.cons_ne_nil _ _) fun _ _ _ _ _ _ _ us its h1 h2 => match us, its, h1, h2 with | [_, _, _], [_], _, _ => ⟨_, rfl, rfl⟩)⟩⟩
  exact (xss_one (xs_ret (xe_tup (xa_cons (xe_op op_add4 (o_add) (XE.p (xe_ix rfl (xp_var 0 (pv 0)) (XE.p xe_int) (fun _ _ => rfl))) (XE.p (xe_op op_mulG (o_mul) (xp_var 2 (pv 2)) (XE.p (xe_ix rfl (xp_var 1 (pv 1)) (XE.p xe_int) (fun _ _ => rfl)))))) (xa_cons (xe_op op_add4 (o_add) (XE.p (xe_ix rfl (xp_var 0 (pv 0)) (XE.p xe_int) (fun _ _ => rfl))) (XE.p (xe_op op_mulG (o_mul) (xp_var 2 (pv 2)) (XE.p (xe_ix rfl (xp_var 1 (pv 1)) (XE.p xe_int) (fun _ _ => rfl)))))) xa_nil)))))

/-! ### first_state -/
abbrev N_first_state : List Str := ["state"]
abbrev P_first_state : List Str := []
def s_first_state : E Fl := (sSeq (sAsg (eDsp ["counts", "word", "index", "why", "rightward"] (aC (oP (eLst aN)) (aC (ep (.str "")) (aC (ep (.int 0)) (aC (ep (.str "")) (aC (ep (.bl true)) aN)))))) (gN 0))
    (sRet (eSpr (eVar 0) ["spread", "spot", "pairs"] (aC (eTup (aC (ep (.int 0)) (aC (ep (.int 1)) aN))) (aC (eTup (aC (ep (.int 0)) (aC (ep (.int 0)) aN))) (aC (oP (eLst aN)) aN))))))
def m_first_state : List D → E0 D := dF 1 s_first_state
theorem me_first_state (Q : D → Zs → Prop) (X : Er → Zs → Prop) (z : Zs) : m_first_state [] Q X z = s_first_state [Sl.no] (outF Q) (fun e _ z => X e z) z := rfl
theorem sc_first_state : FnScope N_first_state P_first_state (defScope (top 28)) := ⟨rfl, rfl, rfl, by decide +kernel, rfl, by decide +kernel, by decide +kernel⟩
theorem ok_first_state (B : Ctx P w K mg base) : ∃ fd, GFn P w K mg base "first_state" 1 (He.fAd K ("first_state", none)) fd P_first_state (spF K mg 0 m_first_state) := by
  obtain ⟨fd, F⟩ := B.2.2.1.def_ 28 (d := d28) rfl
  refine ⟨fd, ⟨fnF_of (k := 0) F sc_first_state fun cdv A outer s H E pa F0 kx => ?_, mg_first_state B, F.kp, bg_pos (F.bindsN fun _ _ _ _ _ _ us hl => match us, hl with | [], _ => rfl)⟩⟩
  exact (xss_cons (xs_set 0 (xe_dsp (ks := ["counts", "word", "index", "why", "rightward"]) kx (fun _ kx => (xps_cons (XO.fz (xo_lst xa_nil)) (xps_cons xe_str (xps_cons xe_int (xps_cons xe_str (xps_cons xe_bl xps_nil)))))) (by decide) (by decide)) kx.nd rfl (by first | exact .inl rfl | exact .inr rfl)) (xss_one (xs_ret (xe_spr (ks := ["spread", "spot", "pairs"]) kx (fun _ kx => (xe_var 0 (pv 0))) (fun _ _ kx => (xps_cons (xe_tup (xa_cons xe_int (xa_cons xe_int xa_nil))) (xps_cons (xe_tup (xa_cons xe_int (xa_cons xe_int xa_nil))) (xps_cons (XO.fz (xo_lst xa_nil)) xps_nil)))) (by decide) (by decide)))))

/-! ### gap_form -/
abbrev N_gap_form : List Str := ["state"]
abbrev P_gap_form : List Str := ["state"]
def s_gap_form : E Fl := (sRet (eIf (tV (bO dGet (ePk 0) (ep (.str "rightward")))) (eCall 3 3 0 m_form_plus gL (aC (eTup (aC (ep (.int 1)) (aC (ep (.int 0)) aN))) (aC (bO dGet (ePk 0) (ep (.str "spot"))) (aC (uO dNeg (ep (.int 1))) aN))) aN) (bO dGet (ePk 0) (ep (.str "spot")))))
def m_gap_form : List D → E0 D := dF 1 s_gap_form
theorem me_gap_form (a0 : D) (Q : D → Zs → Prop) (X : Er → Zs → Prop) (z : Zs) : m_gap_form [a0] Q X z = s_gap_form [Sl.fr a0] (outF Q) (fun e _ z => X e z) z := rfl
theorem sc_gap_form : FnScope N_gap_form P_gap_form (defScope (top 29)) := ⟨rfl, rfl, rfl, by decide +kernel, rfl, by decide +kernel, by decide +kernel⟩
theorem ok_gap_form (B : Ctx P w K mg base) : ∃ fd, GFn P w K mg base "gap_form" 2 (He.fAd K ("gap_form", none)) fd P_gap_form (spF K mg 1 m_gap_form) := by
  obtain ⟨fd, F⟩ := B.2.2.1.def_ 29 (d := d29) rfl
  obtain ⟨fd_form_plus, g_form_plus⟩ := ok_form_plus B
  refine ⟨fd, ⟨fnF_of (k := 1) F sc_gap_form fun cdv A outer s H E pa F0 kx => ?_, mg_gap_form B, F.kp, bg_pos (F.bindsN fun _ _ _ _ _ _ us hl => match us, hl with | [_], _ => rfl)⟩⟩
  exact (xss_one (xs_ret (xe_if (xt_tru rfl (XE.p (xe_dget kx (xp_var 0 (pv 0)) (XE.p xe_str) (fun _ _ => rfl)))) (xe_call g_form_plus.g kx (by omega) g_form_plus.bg rfl (xa_cons (xe_tup (xa_cons xe_int (xa_cons xe_int xa_nil))) (xa_cons (xe_dget kx (xp_var 0 (pv 0)) (XE.p xe_str) (fun _ _ => rfl)) (xa_cons (xe_neg (XE.p xe_int)) xa_nil)))) (xe_dget kx (xp_var 0 (pv 0)) (XE.p xe_str) (fun _ _ => rfl)))))

/-! ### form_of -/
abbrev N_form_of : List Str := ["state", "name", "known", "form"]
abbrev P_form_of : List Str := ["state", "name"]
def p0_form_of (ρ : Rho) (Q : Fl → Rho → Zs → Prop) (X : Er → Rho → Zs → Prop) (z : Zs) : Prop := (sIf (eT (bO dEq (ePk 2) (ePk 1)))
    (sRet (eVar 3))
    (ep .nx)) ρ Q X z
def s_form_of : E Fl := (sSeq (sFor (eb (bO dGet (ePk 0) (ep (.str "pairs"))) fSeqI) (gTp 2 (gCn (gN 2) (gCn (gN 3) gNl))) p0_form_of)
    (sRet (ep .non)))
def m_form_of : List D → E0 D := dF 4 s_form_of
theorem me_form_of (a0 a1 : D) (Q : D → Zs → Prop) (X : Er → Zs → Prop) (z : Zs) : m_form_of [a0, a1] Q X z = s_form_of [Sl.fr a0, Sl.fr a1, Sl.no, Sl.no] (outF Q) (fun e _ z => X e z) z := rfl
theorem sc_form_of : FnScope N_form_of P_form_of (defScope (top 30)) := ⟨rfl, rfl, rfl, by decide +kernel, rfl, by decide +kernel, by decide +kernel⟩
theorem ok_form_of (B : Ctx P w K mg base) : ∃ fd, GFn P w K mg base "form_of" 1 (He.fAd K ("form_of", none)) fd P_form_of (spF K mg 2 m_form_of) := by
  obtain ⟨fd, F⟩ := B.2.2.1.def_ 30 (d := d30) rfl
  refine ⟨fd, ⟨fnF_of (k := 0) F sc_form_of fun cdv A outer s H E pa F0 kx => ?_, mg_form_of B, F.kp, bg_pos (F.bindsN fun _ _ _ _ _ _ us hl => match us, hl with | [_, _], _ => rfl)⟩⟩
  exact (xss_cons (xs_for kx (xi_seq rfl (xe_dget kx (xp_var 0 (pv 0)) (XE.p xe_str) (fun _ _ => rfl))) (xg_tup rfl kx.calm (xgs_cons (xg_name 2 (pg_name kx.nd rfl (by first | exact .inl rfl | exact .inr rfl))) (xgs_cons (xg_name 3 (pg_name kx.nd rfl (by first | exact .inl rfl | exact .inr rfl))) xgs_nil))) (xss_one (xs_if (xt_cmp (op_eq2 kx.hu) o_eq (xp_var 2 (pv 2)) (xp_var 1 (pv 1)) rfl) (xss_one (xs_ret (xe_var 3 (pv 3)))) xss_nil))) (xss_one (xs_ret xe_non)))

/-! ### lead_moved -/
abbrev N_lead_moved : List Str := ["state", "count", "by"]
abbrev P_lead_moved : List Str := ["state", "count"]
def s_lead_moved : E Fl := (sSeq (sAsg (eIf (tV (bO dGet (ePk 0) (ep (.str "rightward")))) (eVar 1) (uO dNeg (ePk 1))) (gN 2))
    (sRet (eSpr (eVar 0) ["spot"] (aC (eCall 3 3 0 m_form_plus gL (aC (bO dGet (ePk 0) (ep (.str "spot"))) (aC (bO dGet (ePk 0) (ep (.str "spread"))) (aC (eVar 2) aN))) aN) aN))))
def m_lead_moved : List D → E0 D := dF 3 s_lead_moved
theorem me_lead_moved (a0 a1 : D) (Q : D → Zs → Prop) (X : Er → Zs → Prop) (z : Zs) : m_lead_moved [a0, a1] Q X z = s_lead_moved [Sl.fr a0, Sl.fr a1, Sl.no] (outF Q) (fun e _ z => X e z) z := rfl
theorem sc_lead_moved : FnScope N_lead_moved P_lead_moved (defScope (top 31)) := ⟨rfl, rfl, rfl, by decide +kernel, rfl, by decide +kernel, by decide +kernel⟩
theorem ok_lead_moved (B : Ctx P w K mg base) : ∃ fd, GFn P w K mg base "lead_moved" 2 (He.fAd K ("lead_moved", none)) fd P_lead_moved (spF K mg 2 m_lead_moved) := by
  obtain ⟨fd, F⟩ := B.2.2.1.def_ 31 (d := d31) rfl
  obtain ⟨fd_form_plus, g_form_plus⟩ := ok_form_plus B
  refine ⟨fd, ⟨fnF_of (k := 1) F sc_lead_moved fun cdv A outer s H E pa F0 kx => ?_, mg_lead_moved B, F.kp, bg_pos (F.bindsN fun _ _ _ _ _ _ us hl => match us, hl with | [_, _], _ => rfl)⟩⟩
  exact (xss_cons (xs_set 2 (xe_if (xt_tru rfl (XE.p (xe_dget kx (xp_var 0 (pv 0)) (XE.p xe_str) (fun _ _ => rfl)))) (xe_var 1 (pv 1)) (xe_neg (xp_var 1 (pv 1)))) kx.nd rfl (by first | exact .inl rfl | exact .inr rfl)) (xss_one (xs_ret (xe_spr (ks := ["spot"]) kx (fun _ kx => (xe_var 0 (pv 0))) (fun _ _ kx => (xps_cons (xe_call g_form_plus.g kx (by omega) g_form_plus.bg rfl (xa_cons (xe_dget kx (xp_var 0 (pv 0)) (XE.p xe_str) (fun _ _ => rfl)) (xa_cons (xe_dget kx (xp_var 0 (pv 0)) (XE.p xe_str) (fun _ _ => rfl)) (xa_cons (xe_var 2 (pv 2)) xa_nil)))) xps_nil)) (by decide) (by decide)))))

/-! ### lead_failed -/
abbrev N_lead_failed : List Str := ["state", "why"]
abbrev P_lead_failed : List Str := ["state", "why"]
def s_lead_failed : E Fl := (sRet (eSpr (eVar 0) ["word", "why"] (aC (ep (.str "failed")) (aC (eVar 1) aN))))
def m_lead_failed : List D → E0 D := dF 2 s_lead_failed
theorem me_lead_failed (a0 a1 : D) (Q : D → Zs → Prop) (X : Er → Zs → Prop) (z : Zs) : m_lead_failed [a0, a1] Q X z = s_lead_failed [Sl.fr a0, Sl.fr a1] (outF Q) (fun e _ z => X e z) z := rfl
theorem sc_lead_failed : FnScope N_lead_failed P_lead_failed (defScope (top 32)) := ⟨rfl, rfl, rfl, by decide +kernel, rfl, by decide +kernel, by decide +kernel⟩
theorem ok_lead_failed (B : Ctx P w K mg base) : ∃ fd, GFn P w K mg base "lead_failed" 1 (He.fAd K ("lead_failed", none)) fd P_lead_failed (spF K mg 2 m_lead_failed) := by
  obtain ⟨fd, F⟩ := B.2.2.1.def_ 32 (d := d32) rfl
  refine ⟨fd, ⟨fnF_of (k := 0) F sc_lead_failed fun cdv A outer s H E pa F0 kx => ?_, mg_lead_failed B, F.kp, bg_pos (F.bindsN fun _ _ _ _ _ _ us hl => match us, hl with | [_, _], _ => rfl)⟩⟩
  exact (xss_one (xs_ret (xe_spr (ks := ["word", "why"]) kx (fun _ kx => (xe_var 0 (pv 0))) (fun _ _ kx => (xps_cons xe_str (xps_cons (xe_var 1 (pv 1)) xps_nil))) (by decide) (by decide))))

/-! ### after_steps -/
abbrev N_after_steps : List Str := ["stretch", "state", "number", "room", "rows", "piece", "fits"]
abbrev P_after_steps : List Str := ["stretch", "state", "number"]
def p0_after_steps (ρ : Rho) (Q : Fl → Rho → Zs → Prop) (X : Er → Rho → Zs → Prop) (z : Zs) : Prop := (sApp 4 (eTup (aC (eVar 5) (aC (eIf (tV (ePk 6)) (eCall 2 2 0 m_lead_moved gL (aC (eVar 1) (aC (eVar 2) aN)) aN) (eCall 2 2 0 m_lead_failed gL (aC (eVar 1) (aC (ep (.str "beyond")) aN)) aN)) aN)))) ρ Q X z
def s_after_steps : E Fl := (sSeq (sAsg (eCall 3 3 0 m_form_plus gL (aC (eCall 1 1 0 m_gap_form gL (aC (eVar 1) aN) aN) (aC (bO dGet (ePk 1) (ep (.str "spread"))) (aC (uO dNeg (ePk 2)) aN))) aN) (gN 3))
    (sSeq (sAsgO (eLst aN) 4)
    (sSeq (sFor (eb (oP (eCall 2 2 0 m_at_least_parts gL (aC (eVar 0) (aC (eVar 3) aN)) aN)) fSeqI) (gTp 2 (gCn (gN 5) (gCn (gN 6) gNl))) p0_after_steps)
    (sRetV 4))))
def m_after_steps : List D → E0 (List D) := dO 7 s_after_steps
theorem me_after_steps (a0 a1 a2 : D) (Q : List D → Zs → Prop) (X : Er → Zs → Prop) (z : Zs) : m_after_steps [a0, a1, a2] Q X z = s_after_steps [Sl.fr a0, Sl.fr a1, Sl.fr a2, Sl.no, Sl.no, Sl.no, Sl.no] (outO Q) (fun e _ z => X e z) z := rfl
theorem sc_after_steps : FnScope N_after_steps P_after_steps (defScope (top 33)) := ⟨rfl, rfl, rfl, by decide +kernel, rfl, by decide +kernel, by decide +kernel⟩
theorem ok_after_steps (B : Ctx P w K mg base) : ∃ fd, GFn P w K mg base "after_steps" 7 (He.fAd K ("after_steps", none)) fd P_after_steps (spO K mg 3 m_after_steps) := by
  obtain ⟨fd, F⟩ := B.2.2.1.def_ 33 (d := d33) rfl
  obtain ⟨fd_at_least_parts, g_at_least_parts⟩ := ok_at_least_parts B
  obtain ⟨fd_lead_moved, g_lead_moved⟩ := ok_lead_moved B
  obtain ⟨fd_lead_failed, g_lead_failed⟩ := ok_lead_failed B
  obtain ⟨fd_form_plus, g_form_plus⟩ := ok_form_plus B
  obtain ⟨fd_gap_form, g_gap_form⟩ := ok_gap_form B
  refine ⟨fd, ⟨fnO_of (k := 6) F sc_after_steps fun cdv A outer s H E pa F0 kx => ?_, mg_after_steps B, F.kp, bg_pos (F.bindsN fun _ _ _ _ _ _ us hl => match us, hl with | [_, _, _], _ => rfl)⟩⟩
  exact (xss_cons (xs_set 3 (xe_call g_form_plus.g kx (by omega) g_form_plus.bg rfl (xa_cons (xe_call g_gap_form.g kx (by omega) g_gap_form.bg rfl (xa_cons (xe_var 1 (pv 1)) xa_nil)) (xa_cons (xe_dget kx (xp_var 1 (pv 1)) (XE.p xe_str) (fun _ _ => rfl)) (xa_cons (xe_neg (xp_var 2 (pv 2))) xa_nil)))) kx.nd rfl (by first | exact .inl rfl | exact .inr rfl)) (xss_cons (xs_setO 4 (xo_lst xa_nil) kx.nd rfl (by first | exact .inl rfl | exact .inr rfl)) (xss_cons (xs_for kx (xi_seq rfl (XO.fz (xo_call g_at_least_parts.g kx (by omega) g_at_least_parts.bg rfl (xa_cons (xe_var 0 (pv 0)) (xa_cons (xe_var 3 (pv 3)) xa_nil))))) (xg_tup rfl kx.calm (xgs_cons (xg_name 5 (pg_name kx.nd rfl (by first | exact .inl rfl | exact .inr rfl))) (xgs_cons (xg_name 6 (pg_name kx.nd rfl (by first | exact .inl rfl | exact .inr rfl))) xgs_nil))) (xss_one (xs_app 4 kx (pv 4) (xe_tup (xa_cons (xe_var 5 (pv 5)) (xa_cons (xe_if (xt_tru rfl (xp_var 6 (pv 6))) (xe_call g_lead_moved.g kx (by omega) g_lead_moved.bg rfl (xa_cons (xe_var 1 (pv 1)) (xa_cons (xe_var 2 (pv 2)) xa_nil))) (xe_call g_lead_failed.g kx (by omega) g_lead_failed.bg rfl (xa_cons (xe_var 1 (pv 1)) (xa_cons xe_str xa_nil)))) xa_nil)))))) (xss_one (xs_retV 4 (pv 4))))))

/-! ### lead_filled -/
abbrev N_lead_filled : List Str := ["state", "count"]
abbrev P_lead_filled : List Str := ["state", "count"]
def s_lead_filled : E Fl := (sRet (eSpr (eCall 2 2 0 m_lead_moved gL (aC (eVar 0) (aC (eVar 1) aN)) aN) ["counts"] (aC (oP (bC (bO dGet (ePk 0) (ep (.str "counts"))) (oP (eLst (aC (eVar 1) aN))))) aN)))
def m_lead_filled : List D → E0 D := dF 2 s_lead_filled
theorem me_lead_filled (a0 a1 : D) (Q : D → Zs → Prop) (X : Er → Zs → Prop) (z : Zs) : m_lead_filled [a0, a1] Q X z = s_lead_filled [Sl.fr a0, Sl.fr a1] (outF Q) (fun e _ z => X e z) z := rfl
theorem sc_lead_filled : FnScope N_lead_filled P_lead_filled (defScope (top 34)) := ⟨rfl, rfl, rfl, by decide +kernel, rfl, by decide +kernel, by decide +kernel⟩
theorem ok_lead_filled (B : Ctx P w K mg base) : ∃ fd, GFn P w K mg base "lead_filled" 3 (He.fAd K ("lead_filled", none)) fd P_lead_filled (spF K mg 2 m_lead_filled) := by
  obtain ⟨fd, F⟩ := B.2.2.1.def_ 34 (d := d34) rfl
  obtain ⟨fd_lead_moved, g_lead_moved⟩ := ok_lead_moved B
  refine ⟨fd, ⟨fnF_of (k := 2) F sc_lead_filled fun cdv A outer s H E pa F0 kx => ?_, mg_lead_filled B, F.kp, bg_pos (F.bindsN fun _ _ _ _ _ _ us hl => match us, hl with | [_, _], _ => rfl)⟩⟩
  exact (xss_one (xs_ret (xe_spr (ks := ["counts"]) kx (fun _ kx => (xe_call g_lead_moved.g kx (by omega) g_lead_moved.bg rfl (xa_cons (xe_var 0 (pv 0)) (xa_cons (xe_var 1 (pv 1)) xa_nil)))) (fun _ _ kx => (xps_cons (XO.fz (xo_op op_add4 o_cat (XE.p (xe_dget kx (xp_var 0 (pv 0)) (XE.p xe_str) (fun _ _ => rfl))) (XO.p (xo_lst (xa_cons (xe_var 1 (pv 1)) xa_nil))))) xps_nil)) (by decide) (by decide))))

/-! ### after_fill -/
abbrev N_after_fill : List Str := ["stretch", "state", "number", "count", "ahead", "behind", "rest", "room", "more", "piece", "fits"]
abbrev P_after_fill : List Str := ["stretch", "state", "number"]
def p0_after_fill (ρ : Rho) (Q : Fl → Rho → Zs → Prop) (X : Er → Rho → Zs → Prop) (z : Zs) : Prop := (sIf (tV (ePk 10))
    (sAsg (eVar 9) (gN 8))
    (sIf (eT (bO dIsN (ePk 8) (ep .non)))
    (sApp 4 (eTup (aC (eVar 9) (aC (eCall 2 2 0 m_lead_filled gL (aC (eVar 1) (aC (eVar 3) aN)) aN) aN))))
    (sApp 5 (eTup (aC (eVar 9) (aC (eCall 2 2 0 m_lead_filled gL (aC (eVar 1) (aC (eVar 3) aN)) aN) aN)))))) ρ Q X z
def p1_after_fill (ρ : Rho) (Q : Fl → Rho → Zs → Prop) (X : Er → Rho → Zs → Prop) (z : Zs) : Prop := (sSeq (sAsg (eCall 3 3 0 m_form_plus gL (aC (eCall 1 1 0 m_gap_form gL (aC (eVar 1) aN) aN) (aC (bO dGet (ePk 1) (ep (.str "spread"))) (aC (uO dNeg (bO dAdd (ePk 3) (ep (.int 1)))) aN))) aN) (gN 7))
    (sSeq (sAsg (ep .non) (gN 8))
    (sSeq (sFor (eb (oP (eCall 2 2 0 m_at_least_parts gL (aC (eVar 6) (aC (eVar 7) aN)) aN)) fSeqI) (gTp 2 (gCn (gN 9) (gCn (gN 10) gNl))) p0_after_fill)
    (sSeq (sIf (eT (bO dIsN (ePk 8) (ep .non)))
    (sRetO (bC (ePk 4) (oP (eb (ePk 5) fRevL))))
    (ep .nx))
    (sAsg (eVar 8) (gN 6)))))) ρ Q X z
def s_after_fill : E Fl := (sSeq (sP3OOF 4 5 6 (eLst aN) (eLst aN) (eVar 0))
    (sSeq (sFor (eb (aC (eVar 2) aN) fRng1) (gN 3) p1_after_fill)
    (sRetO (bC (oP (bC (ePk 4) (oP (eLst (aC (eTup (aC (eVar 6) (aC (eCall 2 2 0 m_lead_filled gL (aC (eVar 1) (aC (eVar 2) aN)) aN) aN))) aN))))) (oP (eb (ePk 5) fRevL))))))
def m_after_fill : List D → E0 (List D) := dO 11 s_after_fill
theorem me_after_fill (a0 a1 a2 : D) (Q : List D → Zs → Prop) (X : Er → Zs → Prop) (z : Zs) : m_after_fill [a0, a1, a2] Q X z = s_after_fill [Sl.fr a0, Sl.fr a1, Sl.fr a2, Sl.no, Sl.no, Sl.no, Sl.no, Sl.no, Sl.no, Sl.no, Sl.no] (outO Q) (fun e _ z => X e z) z := rfl
theorem sc_after_fill : FnScope N_after_fill P_after_fill (defScope (top 35)) := ⟨rfl, rfl, rfl, by decide +kernel, rfl, by decide +kernel, by decide +kernel⟩
theorem ok_after_fill (B : Ctx P w K mg base) : ∃ fd, GFn P w K mg base "after_fill" 7 (He.fAd K ("after_fill", none)) fd P_after_fill (spO K mg 3 m_after_fill) := by
  obtain ⟨fd, F⟩ := B.2.2.1.def_ 35 (d := d35) rfl
  obtain ⟨fd_lead_filled, g_lead_filled⟩ := ok_lead_filled B
  obtain ⟨fd_at_least_parts, g_at_least_parts⟩ := ok_at_least_parts B
  obtain ⟨fd_form_plus, g_form_plus⟩ := ok_form_plus B
  obtain ⟨fd_gap_form, g_gap_form⟩ := ok_gap_form B
  have mb_range := mbf_range B
  refine ⟨fd, ⟨fnO_of (k := 6) F sc_after_fill fun cdv A outer s H E pa F0 kx => ?_, mg_after_fill B, F.kp, bg_pos (F.bindsN fun _ _ _ _ _ _ us hl => match us, hl with | [_, _, _], _ => rfl)⟩⟩
  exact (xss_cons (xs_p3OOF 4 5 6 kx rfl rfl rfl (by decide) (by decide) (by decide) rfl rfl rfl (xo_lst xa_nil) (fun _ kx => (xo_lst xa_nil)) (fun _ _ kx => (xe_var 0 (pv 0))) rfl) (xss_cons (xs_for kx (xi_range1 (xa_cons (xe_var 2 (pv 2)) xa_nil) rfl mb_range) (xg_name 3 (pg_name kx.nd rfl (by first | exact .inl rfl | exact .inr rfl))) (xss_cons (xs_set 7 (xe_call g_form_plus.g kx (by omega) g_form_plus.bg rfl (xa_cons (xe_call g_gap_form.g kx (by omega) g_gap_form.bg rfl (xa_cons (xe_var 1 (pv 1)) xa_nil)) (xa_cons (xe_dget kx (xp_var 1 (pv 1)) (XE.p xe_str) (fun _ _ => rfl)) (xa_cons (xe_neg (XE.p (xe_op op_add4 (o_add) (xp_var 3 (pv 3)) (XE.p xe_int)))) xa_nil)))) kx.nd rfl (by first | exact .inl rfl | exact .inr rfl)) (xss_cons (xs_set 8 xe_non kx.nd rfl (by first | exact .inl rfl | exact .inr rfl)) (xss_cons (xs_for kx (xi_seq rfl (XO.fz (xo_call g_at_least_parts.g kx (by omega) g_at_least_parts.bg rfl (xa_cons (xe_var 6 (pv 6)) (xa_cons (xe_var 7 (pv 7)) xa_nil))))) (xg_tup rfl kx.calm (xgs_cons (xg_name 9 (pg_name kx.nd rfl (by first | exact .inl rfl | exact .inr rfl))) (xgs_cons (xg_name 10 (pg_name kx.nd rfl (by first | exact .inl rfl | exact .inr rfl))) xgs_nil))) (xss_one (xs_if (xt_tru rfl (xp_var 10 (pv 10))) (xss_one (xs_set 8 (xe_var 9 (pv 9)) kx.nd rfl (by first | exact .inl rfl | exact .inr rfl))) (xss_one (xs_if (xt_cmp op_isN o_isN (xp_var 8 (pv 8)) (XE.p xe_non) rfl) (xss_one (xs_app 4 kx (pv 4) (xe_tup (xa_cons (xe_var 9 (pv 9)) (xa_cons (xe_call g_lead_filled.g kx (by omega) g_lead_filled.bg rfl (xa_cons (xe_var 1 (pv 1)) (xa_cons (xe_var 3 (pv 3)) xa_nil))) xa_nil))))) (xss_one (xs_app 5 kx (pv 5) (xe_tup (xa_cons (xe_var 9 (pv 9)) (xa_cons (xe_call g_lead_filled.g kx (by omega) g_lead_filled.bg rfl (xa_cons (xe_var 1 (pv 1)) (xa_cons (xe_var 3 (pv 3)) xa_nil))) xa_nil)))))))))) (xss_cons (xs_if (xt_cmp op_isN o_isN (xp_var 8 (pv 8)) (XE.p xe_non) rfl) (xss_one (xs_retO (xo_op op_add4 o_cat (xp_var 4 (pv 4)) (XO.p (xo_revL rfl (xp_var 5 (pv 5))))))) xss_nil) (xss_one (xs_set 6 (xe_var 8 (pv 8)) kx.nd rfl (by first | exact .inl rfl | exact .inr rfl)))))))) (xss_one (xs_retO (xo_op op_add4 o_cat (XO.p (xo_op op_add4 o_cat (xp_var 4 (pv 4)) (XO.p (xo_lst (xa_cons (xe_tup (xa_cons (xe_var 6 (pv 6)) (xa_cons (xe_call g_lead_filled.g kx (by omega) g_lead_filled.bg rfl (xa_cons (xe_var 1 (pv 1)) (xa_cons (xe_var 2 (pv 2)) xa_nil))) xa_nil))) xa_nil))))) (XO.p (xo_revL rfl (xp_var 5 (pv 5)))))))))

/-! ### after_gap -/
abbrev N_after_gap : List Str := ["stretch", "state", "width", "rows", "piece", "sign"]
abbrev P_after_gap : List Str := ["stretch", "state"]
def p0_after_gap (ρ : Rho) (Q : Fl → Rho → Zs → Prop) (X : Er → Rho → Zs → Prop) (z : Zs) : Prop := (sApp 3 (eTup (aC (eVar 4) (aC (eIf (eT (bO dEq (ePk 5) (ep (.int 0)))) (eCall 2 2 0 m_lead_failed gL (aC (eVar 1) (aC (ep (.str "nothing")) aN)) aN) (eSpr (eVar 1) ["spread"] (aC (eVar 2) aN))) aN)))) ρ Q X z
def s_after_gap : E Fl := (sSeq (sParFO 2 3 (eCall 1 1 0 m_gap_form gL (aC (eVar 1) aN) aN) (eLst aN))
    (sSeq (sFor (eb (oP (eCall 2 2 0 m_sign_parts gL (aC (eVar 0) (aC (eVar 2) aN)) aN)) fSeqI) (gTp 2 (gCn (gN 4) (gCn (gN 5) gNl))) p0_after_gap)
    (sRetV 3)))
def m_after_gap : List D → E0 (List D) := dO 6 s_after_gap
theorem me_after_gap (a0 a1 : D) (Q : List D → Zs → Prop) (X : Er → Zs → Prop) (z : Zs) : m_after_gap [a0, a1] Q X z = s_after_gap [Sl.fr a0, Sl.fr a1, Sl.no, Sl.no, Sl.no, Sl.no] (outO Q) (fun e _ z => X e z) z := rfl
theorem sc_after_gap : FnScope N_after_gap P_after_gap (defScope (top 36)) := ⟨rfl, rfl, rfl, by decide +kernel, rfl, by decide +kernel, by decide +kernel⟩
theorem ok_after_gap (B : Ctx P w K mg base) : ∃ fd, GFn P w K mg base "after_gap" 7 (He.fAd K ("after_gap", none)) fd P_after_gap (spO K mg 2 m_after_gap) := by
  obtain ⟨fd, F⟩ := B.2.2.1.def_ 36 (d := d36) rfl
  obtain ⟨fd_sign_parts, g_sign_parts⟩ := ok_sign_parts B
  obtain ⟨fd_lead_failed, g_lead_failed⟩ := ok_lead_failed B
  obtain ⟨fd_gap_form, g_gap_form⟩ := ok_gap_form B
  refine ⟨fd, ⟨fnO_of (k := 6) F sc_after_gap fun cdv A outer s H E pa F0 kx => ?_, mg_after_gap B, F.kp, bg_pos (F.bindsN fun _ _ _ _ _ _ us hl => match us, hl with | [_, _], _ => rfl)⟩⟩
  exact (xss_cons (xs_parFO 2 3 kx rfl rfl (by decide) rfl rfl (xe_call g_gap_form.g kx (by omega) g_gap_form.bg rfl (xa_cons (xe_var 1 (pv 1)) xa_nil)) (xo_lst xa_nil) rfl) (xss_cons (xs_for kx (xi_seq rfl (XO.fz (xo_call g_sign_parts.g kx (by omega) g_sign_parts.bg rfl (xa_cons (xe_var 0 (pv 0)) (xa_cons (xe_var 2 (pv 2)) xa_nil))))) (xg_tup rfl kx.calm (xgs_cons (xg_name 4 (pg_name kx.nd rfl (by first | exact .inl rfl | exact .inr rfl))) (xgs_cons (xg_name 5 (pg_name kx.nd rfl (by first | exact .inl rfl | exact .inr rfl))) xgs_nil))) (xss_one (xs_app 3 kx (pv 3) (xe_tup (xa_cons (xe_var 4 (pv 4)) (xa_cons (xe_if (xt_cmp (op_eq2 kx.hu) o_eq (xp_var 5 (pv 5)) (XE.p xe_int) rfl) (xe_call g_lead_failed.g kx (by omega) g_lead_failed.bg rfl (xa_cons (xe_var 1 (pv 1)) (xa_cons xe_str xa_nil))) (xe_spr (ks := ["spread"]) kx (fun _ kx => (xe_var 1 (pv 1))) (fun _ _ kx => (xps_cons (xe_var 2 (pv 2)) xps_nil)) (by decide) (by decide))) xa_nil)))))) (xss_one (xs_retV 3 (pv 3)))))

/-! ### after_span -/
abbrev N_after_span : List Str := ["stretch", "state", "names", "name", "forms", "rows", "piece", "sign", "greater", "less"]
abbrev P_after_span : List Str := ["stretch", "state", "names"]
def p0_after_span (ρ : Rho) (Q : Fl → Rho → Zs → Prop) (X : Er → Rho → Zs → Prop) (z : Zs) : Prop := (sIf (eT (bO dEq (ePk 7) (ep (.int 0))))
    (sApp 5 (eTup (aC (eVar 6) (aC (eCall 2 2 0 m_lead_failed gL (aC (eVar 1) (aC (ep (.str "nothing")) aN)) aN) aN))))
    (sSeq (sAsg (oP (eb (ePk 4) fun d => eb (ePk 7) fun s => fStep d s)) (gTp 2 (gCn (gN 8) (gCn (gN 9) gNl))))
    (sApp 5 (eTup (aC (eVar 6) (aC (eSpr (eVar 1) ["spread"] (aC (eCall 3 3 0 m_form_plus gL (aC (eVar 8) (aC (eVar 9) (aC (uO dNeg (ep (.int 1))) aN))) aN) aN)) aN)))))) ρ Q X z
def p1_after_span (ρ : Rho) (Q : D → Rho → Zs → Prop) (X : Er → Rho → Zs → Prop) (z : Zs) : Prop := (eCall 2 2 0 m_form_of gL (aC (eVar 1) (aC (eVar 3) aN)) aN) ρ Q X z
def p2_after_span (ρ : Rho) (Q : Fl → Rho → Zs → Prop) (X : Er → Rho → Zs → Prop) (z : Zs) : Prop := (sIf (eT (bO dIsN (eCall 2 2 0 m_form_of gL (aC (eVar 1) (aC (eVar 3) aN)) aN) (ep .non)))
    (sRetO (eLst (aC (eTup (aC (eVar 0) (aC (eCall 2 2 0 m_lead_failed gL (aC (eVar 1) (aC (eTup (aC (ep (.str "unmarked")) (aC (eVar 3) aN))) aN)) aN) aN))) aN)))
    (ep .nx)) ρ Q X z
def s_after_span : E Fl := (sSeq (sFor (eb (eVar 2) fSeqI) (gN 3) p2_after_span)
    (sSeq (sParFO 4 5 (oP (eLc [3] (eb (eVar 2) fSeqI) (gN 3) (ep true) p1_after_span)) (eLst aN))
    (sSeq (sFor (eb (oP (eCall 2 2 0 m_sign_parts gL (aC (eVar 0) (aC (eCall 3 3 0 m_form_plus gL (aC (bO dIx (ePk 4) (ep (.int 0))) (aC (bO dIx (ePk 4) (ep (.int 1))) (aC (uO dNeg (ep (.int 1))) aN))) aN) aN)) aN)) fSeqI) (gTp 2 (gCn (gN 6) (gCn (gN 7) gNl))) p0_after_span)
    (sRetV 5))))
def m_after_span : List D → E0 (List D) := dO 10 s_after_span
theorem me_after_span (a0 a1 a2 : D) (Q : List D → Zs → Prop) (X : Er → Zs → Prop) (z : Zs) : m_after_span [a0, a1, a2] Q X z = s_after_span [Sl.fr a0, Sl.fr a1, Sl.fr a2, Sl.no, Sl.no, Sl.no, Sl.no, Sl.no, Sl.no, Sl.no] (outO Q) (fun e _ z => X e z) z := rfl
theorem sc_after_span : FnScope N_after_span P_after_span (defScope (top 37)) := ⟨rfl, rfl, rfl, by decide +kernel, rfl, by decide +kernel, by decide +kernel⟩
theorem ok_after_span (B : Ctx P w K mg base) : ∃ fd, GFn P w K mg base "after_span" 7 (He.fAd K ("after_span", none)) fd P_after_span (spO K mg 3 m_after_span) := by
  obtain ⟨fd, F⟩ := B.2.2.1.def_ 37 (d := d37) rfl
  obtain ⟨fd_sign_parts, g_sign_parts⟩ := ok_sign_parts B
  obtain ⟨fd_form_plus, g_form_plus⟩ := ok_form_plus B
  obtain ⟨fd_lead_failed, g_lead_failed⟩ := ok_lead_failed B
  obtain ⟨fd_form_of, g_form_of⟩ := ok_form_of B
  refine ⟨fd, ⟨fnO_of (k := 6) F sc_after_span fun cdv A outer s H E pa F0 kx => ?_, mg_after_span B, F.kp, bg_pos (F.bindsN fun _ _ _ _ _ _ us hl => match us, hl with | [_, _, _], _ => rfl)⟩⟩
  exact (xss_cons (xs_for kx (xi_seq rfl (xe_var 2 (pv 2))) (xg_name 3 (pg_name kx.nd rfl (by first | exact .inl rfl | exact .inr rfl))) (xss_one (xs_if (xt_cmp op_isN o_isN (XE.p (xe_call g_form_of.g kx (by omega) g_form_of.bg rfl (xa_cons (xe_var 1 (pv 1)) (xa_cons (xe_var 3 (pv 3)) xa_nil)))) (XE.p xe_non) rfl) (xss_one (xs_retO (xo_lst (xa_cons (xe_tup (xa_cons (xe_var 0 (pv 0)) (xa_cons (xe_call g_lead_failed.g kx (by omega) g_lead_failed.bg rfl (xa_cons (xe_var 1 (pv 1)) (xa_cons (xe_tup (xa_cons xe_str (xa_cons (xe_var 3 (pv 3)) xa_nil))) xa_nil))) xa_nil))) xa_nil)))) xss_nil))) (xss_cons (xs_parFO 4 5 kx rfl rfl (by decide) rfl rfl (XO.fz (xo_lc (own := [("name", 3)]) kx (xi_seq rfl (xe_var 2 (pv 2))) (by kernel_rfl) (fun _ _ _ _ _ _ kx => (xg_name 3 (pg_name kx.nd rfl (by first | exact .inl rfl | exact .inr rfl)))) (fun _ _ _ _ _ _ kx => xts_nil) (fun _ _ _ _ _ _ kx => (xe_call g_form_of.g kx (by omega) g_form_of.bg rfl (xa_cons (xe_var 1 (pv 1)) (xa_cons (xe_var 3 (pv 3)) xa_nil)))) (by decide))) (xo_lst xa_nil) rfl) (xss_cons (xs_for kx (xi_seq rfl (XO.fz (xo_call g_sign_parts.g kx (by omega) g_sign_parts.bg rfl (xa_cons (xe_var 0 (pv 0)) (xa_cons (xe_call g_form_plus.g kx (by omega) g_form_plus.bg rfl (xa_cons (xe_ix rfl (xp_var 4 (pv 4)) (XE.p xe_int) (fun _ _ => rfl)) (xa_cons (xe_ix rfl (xp_var 4 (pv 4)) (XE.p xe_int) (fun _ _ => rfl)) (xa_cons (xe_neg (XE.p xe_int)) xa_nil)))) xa_nil))))) (xg_tup rfl kx.calm (xgs_cons (xg_name 6 (pg_name kx.nd rfl (by first | exact .inl rfl | exact .inr rfl))) (xgs_cons (xg_name 7 (pg_name kx.nd rfl (by first | exact .inl rfl | exact .inr rfl))) xgs_nil))) (xss_one (xs_if (xt_cmp (op_eq2 kx.hu) o_eq (xp_var 7 (pv 7)) (XE.p xe_int) rfl) (xss_one (xs_app 5 kx (pv 5) (xe_tup (xa_cons (xe_var 6 (pv 6)) (xa_cons (xe_call g_lead_failed.g kx (by omega) g_lead_failed.bg rfl (xa_cons (xe_var 1 (pv 1)) (xa_cons xe_str xa_nil))) xa_nil))))) (xss_cons (xs_asg (XO.fz (xo_step rfl (xp_var 4 (pv 4)) (xp_var 7 (pv 7)))) (xg_tup rfl kx.calm (xgs_cons (xg_name 8 (pg_name kx.nd rfl (by first | exact .inl rfl | exact .inr rfl))) (xgs_cons (xg_name 9 (pg_name kx.nd rfl (by first | exact .inl rfl | exact .inr rfl))) xgs_nil)))) (xss_one (xs_app 5 kx (pv 5) (xe_tup (xa_cons (xe_var 6 (pv 6)) (xa_cons (xe_spr (ks := ["spread"]) kx (fun _ kx => (xe_var 1 (pv 1))) (fun _ _ kx => (xps_cons (xe_call g_form_plus.g kx (by omega) g_form_plus.bg rfl (xa_cons (xe_var 8 (pv 8)) (xa_cons (xe_var 9 (pv 9)) (xa_cons (xe_neg (XE.p xe_int)) xa_nil)))) xps_nil)) (by decide) (by decide)) xa_nil))))))))) (xss_one (xs_retV 5 (pv 5))))))

/-! ### after_rest -/
abbrev N_after_rest : List Str := ["stretch", "state", "rows", "piece", "sign"]
abbrev P_after_rest : List Str := ["stretch", "state"]
def p0_after_rest (ρ : Rho) (Q : Fl → Rho → Zs → Prop) (X : Er → Rho → Zs → Prop) (z : Zs) : Prop := (sApp 2 (eTup (aC (eVar 3) (aC (eIf (eT (bO dEq (ePk 4) (ep (.int 0)))) (eSpr (eVar 1) ["word"] (aC (ep (.str "over")) aN)) (eVar 1)) aN)))) ρ Q X z
def s_after_rest : E Fl := (sSeq (sAsgO (eLst aN) 2)
    (sSeq (sFor (eb (oP (eCall 2 2 0 m_sign_parts gL (aC (eVar 0) (aC (eCall 1 1 0 m_gap_form gL (aC (eVar 1) aN) aN) aN)) aN)) fSeqI) (gTp 2 (gCn (gN 3) (gCn (gN 4) gNl))) p0_after_rest)
    (sRetV 2)))
def m_after_rest : List D → E0 (List D) := dO 5 s_after_rest
theorem me_after_rest (a0 a1 : D) (Q : List D → Zs → Prop) (X : Er → Zs → Prop) (z : Zs) : m_after_rest [a0, a1] Q X z = s_after_rest [Sl.fr a0, Sl.fr a1, Sl.no, Sl.no, Sl.no] (outO Q) (fun e _ z => X e z) z := rfl
theorem sc_after_rest : FnScope N_after_rest P_after_rest (defScope (top 38)) := ⟨rfl, rfl, rfl, by decide +kernel, rfl, by decide +kernel, by decide +kernel⟩
theorem ok_after_rest (B : Ctx P w K mg base) : ∃ fd, GFn P w K mg base "after_rest" 7 (He.fAd K ("after_rest", none)) fd P_after_rest (spO K mg 2 m_after_rest) := by
  obtain ⟨fd, F⟩ := B.2.2.1.def_ 38 (d := d38) rfl
  obtain ⟨fd_sign_parts, g_sign_parts⟩ := ok_sign_parts B
  obtain ⟨fd_gap_form, g_gap_form⟩ := ok_gap_form B
  refine ⟨fd, ⟨fnO_of (k := 6) F sc_after_rest fun cdv A outer s H E pa F0 kx => ?_, mg_after_rest B, F.kp, bg_pos (F.bindsN fun _ _ _ _ _ _ us hl => match us, hl with | [_, _], _ => rfl)⟩⟩
  exact (xss_cons (xs_setO 2 (xo_lst xa_nil) kx.nd rfl (by first | exact .inl rfl | exact .inr rfl)) (xss_cons (xs_for kx (xi_seq rfl (XO.fz (xo_call g_sign_parts.g kx (by omega) g_sign_parts.bg rfl (xa_cons (xe_var 0 (pv 0)) (xa_cons (xe_call g_gap_form.g kx (by omega) g_gap_form.bg rfl (xa_cons (xe_var 1 (pv 1)) xa_nil)) xa_nil))))) (xg_tup rfl kx.calm (xgs_cons (xg_name 3 (pg_name kx.nd rfl (by first | exact .inl rfl | exact .inr rfl))) (xgs_cons (xg_name 4 (pg_name kx.nd rfl (by first | exact .inl rfl | exact .inr rfl))) xgs_nil))) (xss_one (xs_app 2 kx (pv 2) (xe_tup (xa_cons (xe_var 3 (pv 3)) (xa_cons (xe_if (xt_cmp (op_eq2 kx.hu) o_eq (xp_var 4 (pv 4)) (XE.p xe_int) rfl) (xe_spr (ks := ["word"]) kx (fun _ kx => (xe_var 1 (pv 1))) (fun _ _ kx => (xps_cons xe_str xps_nil)) (by decide) (by decide)) (xe_var 1 (pv 1))) xa_nil)))))) (xss_one (xs_retV 2 (pv 2)))))

/-! ### lead_scribed -/
abbrev N_lead_scribed : List Str := ["state", "name", "others", "pair"]
abbrev P_lead_scribed : List Str := ["state", "name"]
def p0_lead_scribed (ρ : Rho) (Q : D → Rho → Zs → Prop) (X : Er → Rho → Zs → Prop) (z : Zs) : Prop := (eVar 3) ρ Q X z
def p1_lead_scribed (ρ : Rho) (Q : Bool → Rho → Zs → Prop) (X : Er → Rho → Zs → Prop) (z : Zs) : Prop := (eT (bO dNe (bO dIx (ePk 3) (ep (.int 0))) (ePk 1))) ρ Q X z
def s_lead_scribed : E Fl := (sSeq (sAsgO (eLc [3] (eb (bO dGet (ePk 0) (ep (.str "pairs"))) fSeqI) (gN 3) p1_lead_scribed p0_lead_scribed) 2)
    (sRet (eSpr (eVar 0) ["pairs"] (aC (oP (eb (oP (bC (ePk 2) (oP (eLst (aC (eTup (aC (eVar 1) (aC (bO dGet (ePk 0) (ep (.str "spot"))) aN))) aN))))) fSortD)) aN))))
def m_lead_scribed : List D → E0 D := dF 4 s_lead_scribed
theorem me_lead_scribed (a0 a1 : D) (Q : D → Zs → Prop) (X : Er → Zs → Prop) (z : Zs) : m_lead_scribed [a0, a1] Q X z = s_lead_scribed [Sl.fr a0, Sl.fr a1, Sl.no, Sl.no] (outF Q) (fun e _ z => X e z) z := rfl
theorem sc_lead_scribed : FnScope N_lead_scribed P_lead_scribed (defScope (top 39)) := ⟨rfl, rfl, rfl, by decide +kernel, rfl, by decide +kernel, by decide +kernel⟩
theorem ok_lead_scribed (B : Ctx P w K mg base) : ∃ fd, GFn P w K mg base "lead_scribed" 1 (He.fAd K ("lead_scribed", none)) fd P_lead_scribed (spF K mg 2 m_lead_scribed) := by
  obtain ⟨fd, F⟩ := B.2.2.1.def_ 39 (d := d39) rfl
  have mb_sorted := mbf_sorted B
  refine ⟨fd, ⟨fnF_of (k := 0) F sc_lead_scribed fun cdv A outer s H E pa F0 kx => ?_, mg_lead_scribed B, F.kp, bg_pos (F.bindsN fun _ _ _ _ _ _ us hl => match us, hl with | [_, _], _ => rfl)⟩⟩
  exact (xss_cons (xs_setLcO 2 (own := [("pair", 3)]) kx rfl rfl (xi_seq rfl (xe_dget kx (xp_var 0 (pv 0)) (XE.p xe_str) (fun _ _ => rfl))) (by kernel_rfl) (fun _ _ _ _ _ _ kx => (xg_name 3 (pg_name kx.nd rfl (by first | exact .inl rfl | exact .inr rfl)))) (fun _ _ _ _ _ _ kx => (xts_one (xt_cmp (op_ne2 kx.hu) o_ne (XE.p (xe_ix rfl (xp_var 3 (pv 3)) (XE.p xe_int) (fun _ _ => rfl))) (xp_var 1 (pv 1)) rfl))) (fun _ _ _ _ _ _ kx => (xe_var 3 (pv 3))) (by decide) rfl) (xss_one (xs_ret (xe_spr (ks := ["pairs"]) kx (fun _ kx => (xe_var 0 (pv 0))) (fun _ _ kx => (xps_cons (XO.fz (xo_sortD kx rfl mb_sorted (XO.p (xo_op op_add4 o_cat (xp_var 2 (pv 2)) (XO.p (xo_lst (xa_cons (xe_tup (xa_cons (xe_var 1 (pv 1)) (xa_cons (xe_dget kx (xp_var 0 (pv 0)) (XE.p xe_str) (fun _ _ => rfl)) xa_nil))) xa_nil))))))) xps_nil)) (by decide) (by decide)))))

/-! ### after_plain -/
abbrev N_after_plain : List Str := ["state", "deed", "word", "form"]
abbrev P_after_plain : List Str := ["state", "deed"]
def s_after_plain : E Fl := (sSeq (sAsg (bO dIx (ePk 1) (ep (.int 0))) (gN 2))
    (sSeq (sIf (eT (bO dEq (ePk 2) (ep (.str "left"))))
    (sRet (eSpr (eVar 0) ["spot", "rightward"] (aC (eTup (aC (ep (.int 0)) (aC (ep (.int 0)) aN))) (aC (ep (.bl true)) aN))))
    (ep .nx))
    (sSeq (sIf (eT (bO dEq (ePk 2) (ep (.str "right"))))
    (sRet (eSpr (eVar 0) ["spot", "rightward"] (aC (eTup (aC (ep (.int 1)) (aC (ep (.int 0)) aN))) (aC (ep (.bl false)) aN))))
    (ep .nx))
    (sSeq (sIf (eT (bO dEq (ePk 2) (ep (.str "turn"))))
    (sRet (eSpr (eVar 0) ["rightward"] (aC (uO dNot (bO dGet (ePk 0) (ep (.str "rightward")))) aN)))
    (ep .nx))
    (sSeq (sIf (eT (bO dEq (ePk 2) (ep (.str "mark"))))
    (sRet (eCall 2 2 0 m_lead_scribed gL (aC (eVar 0) (aC (bO dIx (ePk 1) (ep (.int 1))) aN)) aN))
    (ep .nx))
    (sSeq (sAsg (eCall 2 2 0 m_form_of gL (aC (eVar 0) (aC (bO dIx (ePk 1) (ep (.int 1))) aN)) aN) (gN 3))
    (sRet (eIf (eT (bO dIsN (ePk 3) (ep .non))) (eCall 2 2 0 m_lead_failed gL (aC (eVar 0) (aC (eTup (aC (ep (.str "unmarked")) (aC (bO dIx (ePk 1) (ep (.int 1))) aN))) aN)) aN) (eSpr (eVar 0) ["spot"] (aC (eVar 3) aN))))))))))
def m_after_plain : List D → E0 D := dF 4 s_after_plain
theorem me_after_plain (a0 a1 : D) (Q : D → Zs → Prop) (X : Er → Zs → Prop) (z : Zs) : m_after_plain [a0, a1] Q X z = s_after_plain [Sl.fr a0, Sl.fr a1, Sl.no, Sl.no] (outF Q) (fun e _ z => X e z) z := rfl
theorem sc_after_plain : FnScope N_after_plain P_after_plain (defScope (top 40)) := ⟨rfl, rfl, rfl, by decide +kernel, rfl, by decide +kernel, by decide +kernel⟩
theorem ok_after_plain (B : Ctx P w K mg base) : ∃ fd, GFn P w K mg base "after_plain" 2 (He.fAd K ("after_plain", none)) fd P_after_plain (spF K mg 2 m_after_plain) := by
  obtain ⟨fd, F⟩ := B.2.2.1.def_ 40 (d := d40) rfl
  obtain ⟨fd_lead_failed, g_lead_failed⟩ := ok_lead_failed B
  obtain ⟨fd_form_of, g_form_of⟩ := ok_form_of B
  obtain ⟨fd_lead_scribed, g_lead_scribed⟩ := ok_lead_scribed B
  refine ⟨fd, ⟨fnF_of (k := 1) F sc_after_plain fun cdv A outer s H E pa F0 kx => ?_, mg_after_plain B, F.kp, bg_pos (F.bindsN fun _ _ _ _ _ _ us hl => match us, hl with | [_, _], _ => rfl)⟩⟩
  exact (xss_cons (xs_set 2 (xe_ix rfl (xp_var 1 (pv 1)) (XE.p xe_int) (fun _ _ => rfl)) kx.nd rfl (by first | exact .inl rfl | exact .inr rfl)) (xss_cons (xs_if (xt_cmp (op_eq2 kx.hu) o_eq (xp_var 2 (pv 2)) (XE.p xe_str) rfl) (xss_one (xs_ret (xe_spr (ks := ["spot", "rightward"]) kx (fun _ kx => (xe_var 0 (pv 0))) (fun _ _ kx => (xps_cons (xe_tup (xa_cons xe_int (xa_cons xe_int xa_nil))) (xps_cons xe_bl xps_nil))) (by decide) (by decide)))) xss_nil) (xss_cons (xs_if (xt_cmp (op_eq2 kx.hu) o_eq (xp_var 2 (pv 2)) (XE.p xe_str) rfl) (xss_one (xs_ret (xe_spr (ks := ["spot", "rightward"]) kx (fun _ kx => (xe_var 0 (pv 0))) (fun _ _ kx => (xps_cons (xe_tup (xa_cons xe_int (xa_cons xe_int xa_nil))) (xps_cons xe_bl xps_nil))) (by decide) (by decide)))) xss_nil) (xss_cons (xs_if (xt_cmp (op_eq2 kx.hu) o_eq (xp_var 2 (pv 2)) (XE.p xe_str) rfl) (xss_one (xs_ret (xe_spr (ks := ["rightward"]) kx (fun _ kx => (xe_var 0 (pv 0))) (fun _ _ kx => (xps_cons (xe_not (XE.p (xe_dget kx (xp_var 0 (pv 0)) (XE.p xe_str) (fun _ _ => rfl)))) xps_nil)) (by decide) (by decide)))) xss_nil) (xss_cons (xs_if (xt_cmp (op_eq2 kx.hu) o_eq (xp_var 2 (pv 2)) (XE.p xe_str) rfl) (xss_one (xs_ret (xe_call g_lead_scribed.g kx (by omega) g_lead_scribed.bg rfl (xa_cons (xe_var 0 (pv 0)) (xa_cons (xe_ix rfl (xp_var 1 (pv 1)) (XE.p xe_int) (fun _ _ => rfl)) xa_nil))))) xss_nil) (xss_cons (xs_set 3 (xe_call g_form_of.g kx (by omega) g_form_of.bg rfl (xa_cons (xe_var 0 (pv 0)) (xa_cons (xe_ix rfl (xp_var 1 (pv 1)) (XE.p xe_int) (fun _ _ => rfl)) xa_nil))) kx.nd rfl (by first | exact .inl rfl | exact .inr rfl)) (xss_one (xs_ret (xe_if (xt_cmp op_isN o_isN (xp_var 3 (pv 3)) (XE.p xe_non) rfl) (xe_call g_lead_failed.g kx (by omega) g_lead_failed.bg rfl (xa_cons (xe_var 0 (pv 0)) (xa_cons (xe_tup (xa_cons xe_str (xa_cons (xe_ix rfl (xp_var 1 (pv 1)) (XE.p xe_int) (fun _ _ => rfl)) xa_nil))) xa_nil))) (xe_spr (ks := ["spot"]) kx (fun _ kx => (xe_var 0 (pv 0))) (fun _ _ kx => (xps_cons (xe_var 3 (pv 3)) xps_nil)) (by decide) (by decide)))))))))))

/-! ### after_deed -/
abbrev N_after_deed : List Str := ["stretch", "state", "deed", "word"]
abbrev P_after_deed : List Str := ["stretch", "state", "deed"]
def s_after_deed : E Fl := (sSeq (sAsg (bO dIx (ePk 2) (ep (.int 0))) (gN 3))
    (sSeq (sIf (eT (bO dEq (ePk 3) (ep (.str "steps"))))
    (sRetO (eCall 3 3 0 m_after_steps gL (aC (eVar 0) (aC (eVar 1) (aC (bO dIx (ePk 2) (ep (.int 1))) aN))) aN))
    (ep .nx))
    (sSeq (sIf (eT (bO dEq (ePk 3) (ep (.str "fill"))))
    (sRetO (eCall 3 3 0 m_after_fill gL (aC (eVar 0) (aC (eVar 1) (aC (bO dIx (ePk 2) (ep (.int 1))) aN))) aN))
    (ep .nx))
    (sSeq (sIf (eT (bO dEq (ePk 3) (ep (.str "gap"))))
    (sRetO (eCall 2 2 0 m_after_gap gL (aC (eVar 0) (aC (eVar 1) aN)) aN))
    (ep .nx))
    (sSeq (sIf (eT (bO dEq (ePk 3) (ep (.str "span"))))
    (sRetO (eCall 3 3 0 m_after_span gL (aC (eVar 0) (aC (eVar 1) (aC (eb (ePk 2) fun d => eb (eb (ep (.int 1)) fPart) fun lo => eb (ep none) fun hi => fSlE d lo hi) aN))) aN))
    (ep .nx))
    (sSeq (sIf (eT (bO dEq (ePk 3) (ep (.str "rest"))))
    (sRetO (eCall 2 2 0 m_after_rest gL (aC (eVar 0) (aC (eVar 1) aN)) aN))
    (ep .nx))
    (sRetO (eLst (aC (eTup (aC (eVar 0) (aC (eCall 2 2 0 m_after_plain gL (aC (eVar 1) (aC (eVar 2) aN)) aN) aN))) aN)))))))))
def m_after_deed : List D → E0 (List D) := dO 4 s_after_deed
theorem me_after_deed (a0 a1 a2 : D) (Q : List D → Zs → Prop) (X : Er → Zs → Prop) (z : Zs) : m_after_deed [a0, a1, a2] Q X z = s_after_deed [Sl.fr a0, Sl.fr a1, Sl.fr a2, Sl.no] (outO Q) (fun e _ z => X e z) z := rfl
theorem sc_after_deed : FnScope N_after_deed P_after_deed (defScope (top 41)) := ⟨rfl, rfl, rfl, by decide +kernel, rfl, by decide +kernel, by decide +kernel⟩
theorem ok_after_deed (B : Ctx P w K mg base) : ∃ fd, GFn P w K mg base "after_deed" 8 (He.fAd K ("after_deed", none)) fd P_after_deed (spO K mg 3 m_after_deed) := by
  obtain ⟨fd, F⟩ := B.2.2.1.def_ 41 (d := d41) rfl
  obtain ⟨fd_after_plain, g_after_plain⟩ := ok_after_plain B
  obtain ⟨fd_after_rest, g_after_rest⟩ := ok_after_rest B
  obtain ⟨fd_after_span, g_after_span⟩ := ok_after_span B
  obtain ⟨fd_after_gap, g_after_gap⟩ := ok_after_gap B
  obtain ⟨fd_after_fill, g_after_fill⟩ := ok_after_fill B
  obtain ⟨fd_after_steps, g_after_steps⟩ := ok_after_steps B
  refine ⟨fd, ⟨fnO_of (k := 7) F sc_after_deed fun cdv A outer s H E pa F0 kx => ?_, mg_after_deed B, F.kp, bg_pos (F.bindsN fun _ _ _ _ _ _ us hl => match us, hl with | [_, _, _], _ => rfl)⟩⟩
  exact (xss_cons (xs_set 3 (xe_ix rfl (xp_var 2 (pv 2)) (XE.p xe_int) (fun _ _ => rfl)) kx.nd rfl (by first | exact .inl rfl | exact .inr rfl)) (xss_cons (xs_if (xt_cmp (op_eq2 kx.hu) o_eq (xp_var 3 (pv 3)) (XE.p xe_str) rfl) (xss_one (xs_retO (xo_call g_after_steps.g kx (by omega) g_after_steps.bg rfl (xa_cons (xe_var 0 (pv 0)) (xa_cons (xe_var 1 (pv 1)) (xa_cons (xe_ix rfl (xp_var 2 (pv 2)) (XE.p xe_int) (fun _ _ => rfl)) xa_nil)))))) xss_nil) (xss_cons (xs_if (xt_cmp (op_eq2 kx.hu) o_eq (xp_var 3 (pv 3)) (XE.p xe_str) rfl) (xss_one (xs_retO (xo_call g_after_fill.g kx (by omega) g_after_fill.bg rfl (xa_cons (xe_var 0 (pv 0)) (xa_cons (xe_var 1 (pv 1)) (xa_cons (xe_ix rfl (xp_var 2 (pv 2)) (XE.p xe_int) (fun _ _ => rfl)) xa_nil)))))) xss_nil) (xss_cons (xs_if (xt_cmp (op_eq2 kx.hu) o_eq (xp_var 3 (pv 3)) (XE.p xe_str) rfl) (xss_one (xs_retO (xo_call g_after_gap.g kx (by omega) g_after_gap.bg rfl (xa_cons (xe_var 0 (pv 0)) (xa_cons (xe_var 1 (pv 1)) xa_nil))))) xss_nil) (xss_cons (xs_if (xt_cmp (op_eq2 kx.hu) o_eq (xp_var 3 (pv 3)) (XE.p xe_str) rfl) (xss_one (xs_retO (xo_call g_after_span.g kx (by omega) g_after_span.bg rfl (xa_cons (xe_var 0 (pv 0)) (xa_cons (xe_var 1 (pv 1)) (xa_cons (xe_slice rfl (xp_var 2 (pv 2)) (xpt_some (XE.p xe_int)) xpt_none) xa_nil)))))) xss_nil) (xss_cons (xs_if (xt_cmp (op_eq2 kx.hu) o_eq (xp_var 3 (pv 3)) (XE.p xe_str) rfl) (xss_one (xs_retO (xo_call g_after_rest.g kx (by omega) g_after_rest.bg rfl (xa_cons (xe_var 0 (pv 0)) (xa_cons (xe_var 1 (pv 1)) xa_nil))))) xss_nil) (xss_one (xs_retO (xo_lst (xa_cons (xe_tup (xa_cons (xe_var 0 (pv 0)) (xa_cons (xe_call g_after_plain.g kx (by omega) g_after_plain.bg rfl (xa_cons (xe_var 1 (pv 1)) (xa_cons (xe_var 2 (pv 2)) xa_nil))) xa_nil))) xa_nil))))))))))

/-! ### led_parts -/
abbrev N_led_parts : List Str := ["deeds", "rows", "index", "deed", "later", "stretch", "state"]
abbrev P_led_parts : List Str := ["deeds"]
def p0_led_parts (ρ : Rho) (Q : D → Rho → Zs → Prop) (X : Er → Rho → Zs → Prop) (z : Zs) : Prop := (eTup (aC (eVar 5) (aC (eSpr (eVar 6) ["word"] (aC (eOrT (bO dGet (ePk 6) (ep (.str "word"))) (ep (.str "done"))) aN)) aN))) ρ Q X z
def p1_led_parts (ρ : Rho) (Q : Fl → Rho → Zs → Prop) (X : Er → Rho → Zs → Prop) (z : Zs) : Prop := (sIf (eT (bO dEq (bO dGet (ePk 6) (ep (.str "word"))) (ep (.str ""))))
    (sExt 4 (oP (eCall 3 3 0 m_after_deed gL (aC (eVar 5) (aC (eSpr (eVar 6) ["index"] (aC (eVar 2) aN)) (aC (eVar 3) aN))) aN)))
    (sApp 4 (eTup (aC (eVar 5) (aC (eVar 6) aN))))) ρ Q X z
def p2_led_parts (ρ : Rho) (Q : Fl → Rho → Zs → Prop) (X : Er → Rho → Zs → Prop) (z : Zs) : Prop := (sSeq (sAsgO (eLst aN) 4)
    (sSeq (sFor (eb (eVar 1) fSeqI) (gTp 2 (gCn (gN 5) (gCn (gN 6) gNl))) p1_led_parts)
    (sAsg (eVar 4) (gN 1)))) ρ Q X z
def s_led_parts : E Fl := (sSeq (sAsg (oP (eLst (aC (eTup (aC (ep (D.tup [(D.tup [(D.int 0), (D.int 1)]), (D.bl false), (D.tup [(D.int 1), (D.int 1)]), (D.bl true)])) (aC (eCall 0 0 0 m_first_state gL aN aN) aN))) aN))) (gN 1))
    (sSeq (sFor (eb (aC (eVar 0) aN) fEnum) (gTp 2 (gCn (gN 2) (gCn (gN 3) gNl))) p2_led_parts)
    (sRetO (eLc [5, 6] (eb (eVar 1) fSeqI) (gTp 2 (gCn (gN 5) (gCn (gN 6) gNl))) (ep true) p0_led_parts))))
def m_led_parts : List D → E0 (List D) := dO 7 s_led_parts
theorem me_led_parts (a0 : D) (Q : List D → Zs → Prop) (X : Er → Zs → Prop) (z : Zs) : m_led_parts [a0] Q X z = s_led_parts [Sl.fr a0, Sl.no, Sl.no, Sl.no, Sl.no, Sl.no, Sl.no] (outO Q) (fun e _ z => X e z) z := rfl
theorem sc_led_parts : FnScope N_led_parts P_led_parts (defScope (top 42)) := ⟨rfl, rfl, rfl, by decide +kernel, rfl, by decide +kernel, by decide +kernel⟩
theorem ok_led_parts (B : Ctx P w K mg base) : ∃ fd, GFn P w K mg base "led_parts" 9 (He.fAd K ("led_parts", none)) fd P_led_parts (spO K mg 1 m_led_parts) := by
  obtain ⟨fd, F⟩ := B.2.2.1.def_ 42 (d := d42) rfl
  obtain ⟨fd_after_deed, g_after_deed⟩ := ok_after_deed B
  obtain ⟨fd_first_state, g_first_state⟩ := ok_first_state B
  have mb_enumerate := mbf_enumerate B
  refine ⟨fd, ⟨fnO_of (k := 8) F sc_led_parts fun cdv A outer s H E pa F0 kx => ?_, mg_led_parts B, F.kp, bg_pos (F.bindsN fun _ _ _ _ _ _ us hl => match us, hl with | [_], _ => rfl)⟩⟩
  exact (xss_cons (xs_set 1 (XO.fz (xo_lst (xa_cons (xe_tup (xa_cons (xe_gtup (y := "ALL_OPENINGS") rfl rfl (mg_ALL_OPENINGS B) (con_ALL_OPENINGS B)) (xa_cons (xe_call0 g_first_state.g kx (by omega) g_first_state.bg rfl) xa_nil))) xa_nil))) kx.nd rfl (by first | exact .inl rfl | exact .inr rfl)) (xss_cons (xs_for kx (xi_enum rfl (xa_cons (xe_var 0 (pv 0)) xa_nil) rfl mb_enumerate) (xg_tup rfl kx.calm (xgs_cons (xg_name 2 (pg_name kx.nd rfl (by first | exact .inl rfl | exact .inr rfl))) (xgs_cons (xg_name 3 (pg_name kx.nd rfl (by first | exact .inl rfl | exact .inr rfl))) xgs_nil))) (xss_cons (xs_setO 4 (xo_lst xa_nil) kx.nd rfl (by first | exact .inl rfl | exact .inr rfl)) (xss_cons (xs_for kx (xi_seq rfl (xe_var 1 (pv 1))) (xg_tup rfl kx.calm (xgs_cons (xg_name 5 (pg_name kx.nd rfl (by first | exact .inl rfl | exact .inr rfl))) (xgs_cons (xg_name 6 (pg_name kx.nd rfl (by first | exact .inl rfl | exact .inr rfl))) xgs_nil))) (xss_one (xs_if (xt_cmp (op_eq2 kx.hu) o_eq (XE.p (xe_dget kx (xp_var 6 (pv 6)) (XE.p xe_str) (fun _ _ => rfl))) (XE.p xe_str) rfl) (xss_one (xs_ext 4 kx (pv 4) (XO.p (xo_call g_after_deed.g kx (by omega) g_after_deed.bg rfl (xa_cons (xe_var 5 (pv 5)) (xa_cons (xe_spr (ks := ["index"]) kx (fun _ kx => (xe_var 6 (pv 6))) (fun _ _ kx => (xps_cons (xe_var 2 (pv 2)) xps_nil)) (by decide) (by decide)) (xa_cons (xe_var 3 (pv 3)) xa_nil))))))) (xss_one (xs_app 4 kx (pv 4) (xe_tup (xa_cons (xe_var 5 (pv 5)) (xa_cons (xe_var 6 (pv 6)) xa_nil)))))))) (xss_one (xs_set 1 (xe_var 4 (pv 4)) kx.nd rfl (by first | exact .inl rfl | exact .inr rfl)))))) (xss_one (xs_retO (xo_lc (own := [("stretch", 5), ("state", 6)]) kx (xi_seq rfl (xe_var 1 (pv 1))) (by kernel_rfl) (fun _ _ _ _ _ _ kx => (xg_tup rfl kx.calm (xgs_cons (xg_name 5 (pg_name kx.nd rfl (by first | exact .inl rfl | exact .inr rfl))) (xgs_cons (xg_name 6 (pg_name kx.nd rfl (by first | exact .inl rfl | exact .inr rfl))) xgs_nil)))) (fun _ _ _ _ _ _ kx => xts_nil) (fun _ _ _ _ _ _ kx => (xe_tup (xa_cons (xe_var 5 (pv 5)) (xa_cons (xe_spr (ks := ["word"]) kx (fun _ kx => (xe_var 6 (pv 6))) (fun _ _ kx => (xps_cons (xe_orT kx.hK (xe_dget kx (xp_var 6 (pv 6)) (XE.p xe_str) (fun _ _ => rfl)) (xe_one xe_str)) xps_nil)) (by decide) (by decide)) xa_nil)))) (by decide))))))

/-! ### end_told -/
abbrev N_end_told : List Str := ["state"]
abbrev P_end_told : List Str := ["state"]
def s_end_told : E Fl := (sSeq (sIf (eT (bO dEq (bO dGet (ePk 0) (ep (.str "word"))) (ep (.str "failed"))))
    (sRet (eTup (aC (ep (.str "failed")) (aC (bO dGet (ePk 0) (ep (.str "index"))) (aC (bO dGet (ePk 0) (ep (.str "why"))) aN)))))
    (ep .nx))
    (sRet (eTup (aC (bO dGet (ePk 0) (ep (.str "word"))) (aC (bO dGet (ePk 0) (ep (.str "spread"))) (aC (bO dGet (ePk 0) (ep (.str "spot"))) (aC (oP (eb (bO dGet (ePk 0) (ep (.str "pairs"))) fList)) aN)))))))
def m_end_told : List D → E0 D := dF 1 s_end_told
theorem me_end_told (a0 : D) (Q : D → Zs → Prop) (X : Er → Zs → Prop) (z : Zs) : m_end_told [a0] Q X z = s_end_told [Sl.fr a0] (outF Q) (fun e _ z => X e z) z := rfl
theorem sc_end_told : FnScope N_end_told P_end_told (defScope (top 44)) := ⟨rfl, rfl, rfl, by decide +kernel, rfl, by decide +kernel, by decide +kernel⟩
theorem ok_end_told (B : Ctx P w K mg base) : ∃ fd, GFn P w K mg base "end_told" 1 (He.fAd K ("end_told", none)) fd P_end_told (spF K mg 1 m_end_told) := by
  obtain ⟨fd, F⟩ := B.2.2.1.def_ 43 (d := d44) rfl
  have mb_list := mbf_list B
  refine ⟨fd, ⟨fnF_of (k := 0) F sc_end_told fun cdv A outer s H E pa F0 kx => ?_, mg_end_told B, F.kp, bg_pos (F.bindsN fun _ _ _ _ _ _ us hl => match us, hl with | [_], _ => rfl)⟩⟩
  exact (xss_cons (xs_if (xt_cmp (op_eq2 kx.hu) o_eq (XE.p (xe_dget kx (xp_var 0 (pv 0)) (XE.p xe_str) (fun _ _ => rfl))) (XE.p xe_str) rfl) (xss_one (xs_ret (xe_tup (xa_cons xe_str (xa_cons (xe_dget kx (xp_var 0 (pv 0)) (XE.p xe_str) (fun _ _ => rfl)) (xa_cons (xe_dget kx (xp_var 0 (pv 0)) (XE.p xe_str) (fun _ _ => rfl)) xa_nil)))))) xss_nil) (xss_one (xs_ret (xe_tup (xa_cons (xe_dget kx (xp_var 0 (pv 0)) (XE.p xe_str) (fun _ _ => rfl)) (xa_cons (xe_dget kx (xp_var 0 (pv 0)) (XE.p xe_str) (fun _ _ => rfl)) (xa_cons (xe_dget kx (xp_var 0 (pv 0)) (XE.p xe_str) (fun _ _ => rfl)) (xa_cons (XO.fz (xo_list kx rfl mb_list (XE.p (xe_dget kx (xp_var 0 (pv 0)) (XE.p xe_str) (fun _ _ => rfl))))) xa_nil))))))))

/-! ### ranges -/
abbrev N_ranges : List Str := ["plan", "found", "stretch", "state", "counts", "end"]
abbrev P_ranges : List Str := ["plan"]
def p0_ranges (ρ : Rho) (Q : Fl → Rho → Zs → Prop) (X : Er → Rho → Zs → Prop) (z : Zs) : Prop := (sSeq (sPar 4 5 (aC (oP (eb (bO dGet (ePk 3) (ep (.str "counts"))) fList)) (aC (eCall 1 1 0 m_end_told gL (aC (eVar 3) aN) aN) aN)))
    (sSeq (sIf (eAnd (eT (bO dNe (ePk 1) (oP (eLst aN)))) (eT (bO dEq (eb (bO dIx (ePk 1) (uO dNeg (ep (.int 1)))) fun d => eb (eb (ep (.int 1)) fPart) fun lo => eb (ep none) fun hi => fSlE d lo hi) (eTup (aC (eVar 4) (aC (eVar 5) aN))))))
    (sAsg (bO dAdd (eb (bO dIx (ePopI 1) (ep (.int 0))) fun d => eb (ep none) fun lo => eb (eb (ep (.int 2)) fPart) fun hi => fSlE d lo hi) (eb (ePk 2) fun d => eb (eb (ep (.int 2)) fPart) fun lo => eb (ep none) fun hi => fSlE d lo hi)) (gN 2))
    (ep .nx))
    (sApp 1 (eTup (aC (eVar 2) (aC (eVar 4) (aC (eVar 5) aN))))))) ρ Q X z
def s_ranges : E Fl := (sSeq (sAsgO (eLst aN) 1)
    (sSeq (sFor (eb (oP (eCall 1 1 0 m_led_parts gL (aC (oP (eb (eVar 0) (fProp "Script" m_Script_deeds))) aN) aN)) fSeqI) (gTp 2 (gCn (gN 2) (gCn (gN 3) gNl))) p0_ranges)
    (sRetV 1)))
def m_ranges : List D → E0 (List D) := dO 6 s_ranges
theorem me_ranges (a0 : D) (Q : List D → Zs → Prop) (X : Er → Zs → Prop) (z : Zs) : m_ranges [a0] Q X z = s_ranges [Sl.fr a0, Sl.no, Sl.no, Sl.no, Sl.no, Sl.no] (outO Q) (fun e _ z => X e z) z := rfl
theorem sc_ranges : FnScope N_ranges P_ranges (defScope (top 45)) := ⟨rfl, rfl, rfl, by decide +kernel, rfl, by decide +kernel, by decide +kernel⟩
theorem ok_ranges (B : Ctx P w K mg base) : ∃ fd, GFn P w K mg base "ranges" 10 (He.fAd K ("ranges", none)) fd P_ranges (spO K mg 1 m_ranges) ∧ BG K fd P_ranges ["plan"] 0 (gP [0]) (gP [0]) := by
  obtain ⟨fd, F⟩ := B.2.2.1.def_ 44 (d := d45) rfl
  obtain ⟨fd_led_parts, g_led_parts⟩ := ok_led_parts B
  obtain ⟨fd_Script_deeds, g_Script_deeds⟩ := ok_Script_deeds B
  obtain ⟨fd_end_told, g_end_told⟩ := ok_end_told B
  have mb_list := mbf_list B
  refine ⟨fd, ⟨fnO_of (k := 9) F sc_ranges fun cdv A outer s H E pa F0 kx => ?_, mg_ranges B, F.kp, bg_pos (F.bindsN fun _ _ _ _ _ _ us hl => match us, hl with | [_], _ => rfl)⟩, bg_kw F 0 [0] fun _ _ _ _ _ _ us ws h1 h2 => match us, ws, h1, h2 with | [], [_], _, _ => rfl⟩
  exact (xss_cons (xs_setO 1 (xo_lst xa_nil) kx.nd rfl (by first | exact .inl rfl | exact .inr rfl)) (xss_cons (xs_for kx (xi_seq rfl (XO.fz (xo_call g_led_parts.g kx (by omega) g_led_parts.bg rfl (xa_cons (XO.fz (xo_prop kx (mg_Script B) (cls_Script B) (prop_Script_deeds B) g_Script_deeds.g (by omega) rfl (xe_var 0 (pv 0)))) xa_nil)))) (xg_tup rfl kx.calm (xgs_cons (xg_name 2 (pg_name kx.nd rfl (by first | exact .inl rfl | exact .inr rfl))) (xgs_cons (xg_name 3 (pg_name kx.nd rfl (by first | exact .inl rfl | exact .inr rfl))) xgs_nil))) (xss_cons (xs_par 4 5 kx.calm kx.nd rfl rfl (by decide) rfl rfl (xa_cons (XO.fz (xo_list kx rfl mb_list (XE.p (xe_dget kx (xp_var 3 (pv 3)) (XE.p xe_str) (fun _ _ => rfl))))) (xa_cons (xe_call g_end_told.g kx (by omega) g_end_told.bg rfl (xa_cons (xe_var 3 (pv 3)) xa_nil)) xa_nil)) rfl) (xss_cons (xs_if (XW.t (xw_and (xt_cmp (op_ne2 kx.hu) o_ne (xp_var 1 (pv 1)) (XO.p (xo_lst xa_nil)) rfl) (xw_and1 (xt_cmp (op_eq2 kx.hu) o_eq (XE.p (xe_slice rfl (XE.p (xe_ix rfl (xp_var 1 (pv 1)) (XE.p (xe_neg (XE.p xe_int))) (fun _ _ => rfl))) (xpt_some (XE.p xe_int)) xpt_none)) (XE.p (xe_tup (xa_cons (xe_var 4 (pv 4)) (xa_cons (xe_var 5 (pv 5)) xa_nil)))) rfl)))) (xss_one (xs_setW 2 (xw_op op_add4 (o_add) (xw_slice rfl (xw_ix rfl (xw_pop 1 (pv 1)) (XE.p xe_int) (fun _ _ => rfl)) xpt_none (xpt_some (XE.p xe_int))) (XE.p (xe_slice rfl (xp_var 2 (pv 2)) (xpt_some (XE.p xe_int)) xpt_none))) kx.nd rfl (by first | exact .inl rfl | exact .inr rfl))) xss_nil) (xss_one (xs_app 1 kx (pv 1) (xe_tup (xa_cons (xe_var 2 (pv 2)) (xa_cons (xe_var 4 (pv 4)) (xa_cons (xe_var 5 (pv 5)) xa_nil))))))))) (xss_one (xs_retV 1 (pv 1)))))

/-! ### _law_rg_sack -/
abbrev N__law_rg_sack : List Str := ["_law_script", "_law_spot", "_law_cell"]
abbrev P__law_rg_sack : List Str := ["_law_script", "_law_spot"]
def s__law_rg_sack : E Fl := (sSeq (sAsg (eIf (eT (bO dLt (ePk 1) (uO dLen (ePk 0)))) (bO dIx (ePk 0) (ePk 1)) (ep (.int 0))) (gN 2))
    (sRetO (eLst (aC (bO dMax (ep (.int 0)) (bO dSub (uO dAbs (ePk 2)) (bO dPow (ep (.int 10)) (ep (.int 18))))) (aC (bO dMod (uO dInt (bO dAdd (bO dAdd (bO dMul (ePk 2) (ep (.int 48611))) (bO dMul (ePk 1) (ep (.int 7368787)))) (ep (.int 15485863)))) (bO dAdd (bO dPow (ep (.int 10)) (ep (.int 24))) (ep (.int 7)))) (aC (ep (.int 0)) aN))))))
def m__law_rg_sack : List D → E0 (List D) := dO 3 s__law_rg_sack
theorem me__law_rg_sack (a0 a1 : D) (Q : List D → Zs → Prop) (X : Er → Zs → Prop) (z : Zs) : m__law_rg_sack [a0, a1] Q X z = s__law_rg_sack [Sl.fr a0, Sl.fr a1, Sl.no] (outO Q) (fun e _ z => X e z) z := rfl
theorem sc__law_rg_sack : FnScope N__law_rg_sack P__law_rg_sack (defScope (top 47)) := ⟨rfl, rfl, rfl, by decide +kernel, rfl, by decide +kernel, by decide +kernel⟩
theorem ok__law_rg_sack (B : Ctx P w K mg base) : ∃ fd, GFn P w K mg base "_law_rg_sack" 1 (He.fAd K ("_law_rg_sack", none)) fd P__law_rg_sack (spO K mg 2 m__law_rg_sack) := by
  obtain ⟨fd, F⟩ := B.2.2.1.def_ 45 (d := d47) rfl
  have mb_abs := mbf_abs B
  have mb_int := mbf_int B
  have mb_len := mbf_len B
  have mb_max := mbf_max B
  refine ⟨fd, ⟨fnO_of (k := 0) F sc__law_rg_sack fun cdv A outer s H E pa F0 kx => ?_, mg__law_rg_sack B, F.kp, bg_pos (F.bindsN fun _ _ _ _ _ _ us hl => match us, hl with | [_, _], _ => rfl)⟩⟩
  exact (xss_cons (xs_set 2 (xe_if (xt_cmp op_lt2 o_lt (xp_var 1 (pv 1)) (XE.p (xe_len rfl rfl mb_len (xp_var 0 (pv 0)))) rfl) (xe_ix rfl (xp_var 0 (pv 0)) (xp_var 1 (pv 1)) (fun _ _ => rfl)) xe_int) kx.nd rfl (by first | exact .inl rfl | exact .inr rfl)) (xss_one (xs_retO (xo_lst (xa_cons (xe_max2 kx rfl mb_max (XE.p xe_int) (XE.p (xe_op op_sub (o_sub) (XE.p (xe_abs rfl mb_abs (xp_var 2 (pv 2)))) (XE.p (xe_op op_powG (o_pow) (XE.p xe_int) (XE.p xe_int)))))) (xa_cons (xe_op op_modN (o_mod) (XE.p (xe_int1 rfl mb_int (XE.p (xe_op op_add4 (o_add) (XE.p (xe_op op_add4 (o_add) (XE.p (xe_op op_mulG (o_mul) (xp_var 2 (pv 2)) (XE.p xe_int))) (XE.p (xe_op op_mulG (o_mul) (xp_var 1 (pv 1)) (XE.p xe_int))))) (XE.p xe_int))))) (XE.p (xe_op op_add4 (o_add) (XE.p (xe_op op_powG (o_pow) (XE.p xe_int) (XE.p xe_int))) (XE.p xe_int)))) (xa_cons xe_int xa_nil)))))))

/-! ### _law_rg_pick -/
abbrev N__law_rg_pick : List Str := ["_law_sack", "_law_many", "_law_mixed", "_law_drawn"]
abbrev P__law_rg_pick : List Str := ["_law_sack", "_law_many"]
def s__law_rg_pick : E Fl := (sSeq (sIf (eT (bO dGt (ePz 0 0) (ep (.int 0))))
    (sSeq (sAsg (bO dMod (uO dInt (ePz 0 0)) (ePk 1)) (gN 3))
    (sSeq (sPz 0 0 (bO dDiv (ePz 0 0) (ePk 1)))
    (sRet (eVar 3))))
    (ep .nx))
    (sSeq (sPz 0 2 (bO dAdd (ePz 0 2) (ep (.int 1))))
    (sSeq (sAsg (bO dMod (bO dPow (uO dInt (bO dAdd (ePz 0 1) (bO dMul (ep (.int 1640531527)) (ePz 0 2)))) (ep (.int 3))) (bO dAdd (bO dPow (ep (.int 10)) (ep (.int 25))) (ep (.int 13)))) (gN 2))
    (sSeq (sAsg (bO dMod (bO dPow (uO dInt (bO dAdd (ePk 2) (bO dMul (ep (.int 362437069)) (ePz 0 2)))) (ep (.int 2))) (bO dAdd (bO dPow (ep (.int 10)) (ep (.int 24))) (ep (.int 7)))) (gN 2))
    (sRet (bO dMod (uO dInt (bO dDiv (ePk 2) (ep (.int 4096)))) (ePk 1)))))))
def m__law_rg_pick : List D → E0 D := dF 4 s__law_rg_pick
theorem me__law_rg_pick (a0 a1 : D) (Q : D → Zs → Prop) (X : Er → Zs → Prop) (z : Zs) : m__law_rg_pick [a0, a1] Q X z = s__law_rg_pick [Sl.fr a0, Sl.fr a1, Sl.no, Sl.no] (outF Q) (fun e _ z => X e z) z := rfl
theorem sc__law_rg_pick : FnScope N__law_rg_pick P__law_rg_pick (defScope (top 48)) := ⟨rfl, rfl, rfl, by decide +kernel, rfl, by decide +kernel, by decide +kernel⟩
theorem ok__law_rg_pick (B : Ctx P w K mg base) : ∃ fd, GFn P w K mg base "_law_rg_pick" 1 (He.fAd K ("_law_rg_pick", none)) fd P__law_rg_pick (spF K mg 2 m__law_rg_pick) := by
  obtain ⟨fd, F⟩ := B.2.2.1.def_ 46 (d := d48) rfl
  have mb_int := mbf_int B
  refine ⟨fd, ⟨fnF_of (k := 0) F sc__law_rg_pick fun cdv A outer s H E pa F0 kx => ?_, mg__law_rg_pick B, F.kp, bg_pos (F.bindsN fun _ _ _ _ _ _ us hl => match us, hl with | [_, _], _ => rfl)⟩⟩
  exact (xss_cons (xs_if (xt_cmp op_gt o_gt (XE.p (xe_pz 0 0 rfl (pv 0) (fun _ _ => rfl))) (XE.p xe_int) rfl) (xss_cons (xs_set 3 (xe_op op_modN (o_mod) (XE.p (xe_int1 rfl mb_int (XE.p (xe_pz 0 0 rfl (pv 0) (fun _ _ => rfl))))) (xp_var 1 (pv 1))) kx.nd rfl (by first | exact .inl rfl | exact .inr rfl)) (xss_cons (xs_pz 0 0 (pv 0) (xe_op op_divG (o_div) (XE.p (xe_pz 0 0 rfl (pv 0) (fun _ _ => rfl))) (xp_var 1 (pv 1)))) (xss_one (xs_ret (xe_var 3 (pv 3)))))) xss_nil) (xss_cons (xs_pz 0 2 (pv 0) (xe_op op_add4 (o_add) (XE.p (xe_pz 0 2 rfl (pv 0) (fun _ _ => rfl))) (XE.p xe_int))) (xss_cons (xs_set 2 (xe_op op_modN (o_mod) (XE.p (xe_op op_powG (o_pow) (XE.p (xe_int1 rfl mb_int (XE.p (xe_op op_add4 (o_add) (XE.p (xe_pz 0 1 rfl (pv 0) (fun _ _ => rfl))) (XE.p (xe_op op_mulG (o_mul) (XE.p xe_int) (XE.p (xe_pz 0 2 rfl (pv 0) (fun _ _ => rfl))))))))) (XE.p xe_int))) (XE.p (xe_op op_add4 (o_add) (XE.p (xe_op op_powG (o_pow) (XE.p xe_int) (XE.p xe_int))) (XE.p xe_int)))) kx.nd rfl (by first | exact .inl rfl | exact .inr rfl)) (xss_cons (xs_set 2 (xe_op op_modN (o_mod) (XE.p (xe_op op_powG (o_pow) (XE.p (xe_int1 rfl mb_int (XE.p (xe_op op_add4 (o_add) (xp_var 2 (pv 2)) (XE.p (xe_op op_mulG (o_mul) (XE.p xe_int) (XE.p (xe_pz 0 2 rfl (pv 0) (fun _ _ => rfl))))))))) (XE.p xe_int))) (XE.p (xe_op op_add4 (o_add) (XE.p (xe_op op_powG (o_pow) (XE.p xe_int) (XE.p xe_int))) (XE.p xe_int)))) kx.nd rfl (by first | exact .inl rfl | exact .inr rfl)) (xss_one (xs_ret (xe_op op_modN (o_mod) (XE.p (xe_int1 rfl mb_int (XE.p (xe_op op_divG (o_div) (xp_var 2 (pv 2)) (XE.p xe_int))))) (xp_var 1 (pv 1)))))))))

/-! ### _law_rg_names -/
abbrev N__law_rg_names : List Str := ["_law_sack", "_law_many", "_law_stem", "_law_words", "_law_found", "_law_rank", "_law_letters", "_law_way", "_law_size", "_law_spot", "_law_letter", "_law_word", "_law_turn", "_law_cut", "_law_start"]
abbrev P__law_rg_names : List Str := ["_law_sack", "_law_many"]
def p0__law_rg_names (ρ : Rho) (Q : D → Rho → Zs → Prop) (X : Er → Rho → Zs → Prop) (z : Zs) : Prop := (bO dAdd (eb (ePk 2) fun d => eb (ep none) fun lo => eb (eb (ep (.int 7)) fPart) fun hi => fSlE d lo hi) (bO dIx (ePk 6) (ePk 5))) ρ Q X z
def p1__law_rg_names (ρ : Rho) (Q : D → Rho → Zs → Prop) (X : Er → Rho → Zs → Prop) (z : Zs) : Prop := (bO dIx (ePk 6) (eCall 2 2 0 m__law_rg_pick gL (aC (eVar 0) (aC (ep (.int 26)) aN)) aN)) ρ Q X z
def p2__law_rg_names (ρ : Rho) (Q : Fl → Rho → Zs → Prop) (X : Er → Rho → Zs → Prop) (z : Zs) : Prop := (sSeq (sAsg (bO dIx (ePk 6) (bO dMod (uO dInt (bO dAdd (bO dMul (ePk 5) (ep (.int 9))) (ePk 9))) (ep (.int 26)))) (gN 10))
    (sSeq (sIf (eT (bO dEq (ePk 7) (ep (.int 0))))
    (sAsg (bO dIx (ePk 3) (bO dMod (uO dInt (bO dAdd (ePk 9) (bO dMul (ep (.int 3)) (ePk 5)))) (ep (.int 10)))) (gN 11))
    (sIf (eT (bO dEq (ePk 7) (ep (.int 1))))
    (sAsg (eb (ePk 2) fun d => eb (ep none) fun lo => eb (eb (bO dAdd (bO dAdd (ePk 8) (ep (.int 1))) (ePk 5)) fPart) fun hi => fSlE d lo hi) (gN 11))
    (sIf (eT (bO dEq (ePk 7) (ep (.int 2))))
    (sSeq (sAsg (bO dMod (uO dInt (ePk 8)) (bO dAdd (ePk 9) (ep (.int 1)))) (gN 13))
    (sAsg (bO dAdd (bO dAdd (eb (ePk 2) fun d => eb (ep none) fun lo => eb (eb (ePk 13) fPart) fun hi => fSlE d lo hi) (ePk 10)) (eb (ePk 2) fun d => eb (eb (bO dAdd (ePk 13) (ep (.int 1))) fPart) fun lo => eb (eb (bO dAdd (ePk 9) (ep (.int 1))) fPart) fun hi => fSlE d lo hi)) (gN 11)))
    (sIf (eT (bO dEq (ePk 7) (ep (.int 3))))
    (sSeq (sAsg (eb (ePk 2) fun d => eb (ep none) fun lo => eb (eb (bO dAdd (ePk 8) (ep (.int 1))) fPart) fun hi => fSlE d lo hi) (gN 14))
    (sAsg (bO dIx (oP (eLst (aC (eVar 14) (aC (bO dAdd (ePk 10) (ePk 14)) (aC (bO dAdd (ePk 14) (ePk 10)) aN))))) (bO dMin (ePk 5) (bO dAdd (ep (.int 1)) (bO dMod (uO dInt (ePk 5)) (ep (.int 2)))))) (gN 11)))
    (sAsg (eb (oP (eLc [12] (eb (aC (bO dAdd (ep (.int 1)) (eCall 2 2 0 m__law_rg_pick gL (aC (eVar 0) (aC (ep (.int 8)) aN)) aN)) aN) fRng1) (gN 12) (ep true) p1__law_rg_names)) fun y => eP (dJoin "" y)) (gN 11))))))
    (sApp 4 (eVar 11)))) ρ Q X z
def p3__law_rg_names (ρ : Rho) (Q : D → Rho → Zs → Prop) (X : Er → Rho → Zs → Prop) (z : Zs) : Prop := (bO dIx (ePk 6) (eCall 2 2 0 m__law_rg_pick gL (aC (eVar 0) (aC (ep (.int 26)) aN)) aN)) ρ Q X z
def s__law_rg_names : E Fl := (sSeq (sAsg (eTup (aC (ep (.str "abcdefghijklmnopqrstuvwxyz")) (aC (eCall 2 2 0 m__law_rg_pick gL (aC (eVar 0) (aC (ep (.int 5)) aN)) aN) aN))) (gTp 2 (gCn (gN 6) (gCn (gN 7) gNl))))
    (sSeq (sAsg (eb (oP (eLc [12] (eb (aC (ep (.int 8)) aN) fRng1) (gN 12) (ep true) p3__law_rg_names)) fun y => eP (dJoin "" y)) (gN 2))
    (sSeq (sPar 8 9 (aC (eCall 2 2 0 m__law_rg_pick gL (aC (eVar 0) (aC (ep (.int 5)) aN)) aN) (aC (eCall 2 2 0 m__law_rg_pick gL (aC (eVar 0) (aC (ep (.int 8)) aN)) aN) aN)))
    (sSeq (sAsg (oP (eLst (aC (ep (.str "left")) (aC (ep (.str "fill")) (aC (ep (.str "gap")) (aC (ep (.str "span")) (aC (ep (.str "mark")) (aC (ep (.str "rest")) (aC (ep (.str "t")) (aC (ep (.str "nothing")) (aC (ep (.str "done")) (aC (ep (.str "turn")) aN)))))))))))) (gN 3))
    (sSeq (sAsgO (eLst aN) 4)
    (sSeq (sFor (eb (aC (eVar 1) aN) fRng1) (gN 5) p2__law_rg_names)
    (sSeq (sIf (eT (bO dLt (uO dLenSet (ePk 4)) (ePk 1)))
    (sRetO (eLc [5] (eb (aC (eVar 1) aN) fRng1) (gN 5) (ep true) p0__law_rg_names))
    (ep .nx))
    (sRetV 4))))))))
def m__law_rg_names : List D → E0 (List D) := dO 15 s__law_rg_names
theorem me__law_rg_names (a0 a1 : D) (Q : List D → Zs → Prop) (X : Er → Zs → Prop) (z : Zs) : m__law_rg_names [a0, a1] Q X z = s__law_rg_names [Sl.fr a0, Sl.fr a1, Sl.no, Sl.no, Sl.no, Sl.no, Sl.no, Sl.no, Sl.no, Sl.no, Sl.no, Sl.no, Sl.no, Sl.no, Sl.no] (outO Q) (fun e _ z => X e z) z := rfl
theorem sc__law_rg_names : FnScope N__law_rg_names P__law_rg_names (defScope (top 49)) := ⟨rfl, rfl, rfl, by decide +kernel, rfl, by decide +kernel, by decide +kernel⟩
theorem ok__law_rg_names (B : Ctx P w K mg base) : ∃ fd, GFn P w K mg base "_law_rg_names" 2 (He.fAd K ("_law_rg_names", none)) fd P__law_rg_names (spO K mg 2 m__law_rg_names) := by
  obtain ⟨fd, F⟩ := B.2.2.1.def_ 47 (d := d49) rfl
  obtain ⟨fd__law_rg_pick, g__law_rg_pick⟩ := ok__law_rg_pick B
  have mb_int := mbf_int B
  have mb_len := mbf_len B
  have mb_min := mbf_min B
  have mb_range := mbf_range B
  have mb_set := mbf_set B
  refine ⟨fd, ⟨fnO_of (k := 1) F sc__law_rg_names fun cdv A outer s H E pa F0 kx => ?_, mg__law_rg_names B, F.kp, bg_pos (F.bindsN fun _ _ _ _ _ _ us hl => match us, hl with | [_, _], _ => rfl)⟩⟩
  exact (xss_cons (xs_asg (xe_tup (xa_cons xe_str (xa_cons (xe_call g__law_rg_pick.g kx (by omega) g__law_rg_pick.bg rfl (xa_cons (xe_var 0 (pv 0)) (xa_cons xe_int xa_nil))) xa_nil))) (xg_tup rfl kx.calm (xgs_cons (xg_name 6 (pg_name kx.nd rfl (by first | exact .inl rfl | exact .inr rfl))) (xgs_cons (xg_name 7 (pg_name kx.nd rfl (by first | exact .inl rfl | exact .inr rfl))) xgs_nil)))) (xss_cons (xs_set 2 (xe_join rfl (XO.p (xo_lc (own := [("_law_turn", 12)]) kx (xi_range1 (xa_cons xe_int xa_nil) rfl mb_range) (by kernel_rfl) (fun _ _ _ _ _ _ kx => (xg_name 12 (pg_name kx.nd rfl (by first | exact .inl rfl | exact .inr rfl)))) (fun _ _ _ _ _ _ kx => xts_nil) (fun _ _ _ _ _ _ kx => (xe_ix rfl (xp_var 6 (pv 6)) (XE.p (xe_call g__law_rg_pick.g kx (by omega) g__law_rg_pick.bg rfl (xa_cons (xe_var 0 (pv 0)) (xa_cons xe_int xa_nil)))) (fun _ _ => rfl))) (by decide)))) kx.nd rfl (by first | exact .inl rfl | exact .inr rfl)) (xss_cons (xs_par 8 9 kx.calm kx.nd rfl rfl (by decide) rfl rfl (xa_cons (xe_call g__law_rg_pick.g kx (by omega) g__law_rg_pick.bg rfl (xa_cons (xe_var 0 (pv 0)) (xa_cons xe_int xa_nil))) (xa_cons (xe_call g__law_rg_pick.g kx (by omega) g__law_rg_pick.bg rfl (xa_cons (xe_var 0 (pv 0)) (xa_cons xe_int xa_nil))) xa_nil)) rfl) (xss_cons (xs_set 3 (XO.fz (xo_lst (xa_cons xe_str (xa_cons xe_str (xa_cons xe_str (xa_cons xe_str (xa_cons xe_str (xa_cons xe_str (xa_cons xe_str (xa_cons xe_str (xa_cons xe_str (xa_cons xe_str xa_nil)))))))))))) kx.nd rfl (by first | exact .inl rfl | exact .inr rfl)) (xss_cons (xs_setO 4 (xo_lst xa_nil) kx.nd rfl (by first | exact .inl rfl | exact .inr rfl)) (xss_cons (xs_for kx (xi_range1 (xa_cons (xe_var 1 (pv 1)) xa_nil) rfl mb_range) (xg_name 5 (pg_name kx.nd rfl (by first | exact .inl rfl | exact .inr rfl))) (xss_cons (xs_set 10 (xe_ix rfl (xp_var 6 (pv 6)) (XE.p (xe_op op_modN (o_mod) (XE.p (xe_int1 rfl mb_int (XE.p (xe_op op_add4 (o_add) (XE.p (xe_op op_mulG (o_mul) (xp_var 5 (pv 5)) (XE.p xe_int))) (xp_var 9 (pv 9)))))) (XE.p xe_int))) (fun _ _ => rfl)) kx.nd rfl (by first | exact .inl rfl | exact .inr rfl)) (xss_cons (xs_if (xt_cmp (op_eq2 kx.hu) o_eq (xp_var 7 (pv 7)) (XE.p xe_int) rfl) (xss_one (xs_set 11 (xe_ix rfl (xp_var 3 (pv 3)) (XE.p (xe_op op_modN (o_mod) (XE.p (xe_int1 rfl mb_int (XE.p (xe_op op_add4 (o_add) (xp_var 9 (pv 9)) (XE.p (xe_op op_mulG (o_mul) (XE.p xe_int) (xp_var 5 (pv 5)))))))) (XE.p xe_int))) (fun _ _ => rfl)) kx.nd rfl (by first | exact .inl rfl | exact .inr rfl))) (xss_one (xs_if (xt_cmp (op_eq2 kx.hu) o_eq (xp_var 7 (pv 7)) (XE.p xe_int) rfl) (xss_one (xs_set 11 (xe_slice rfl (xp_var 2 (pv 2)) xpt_none (xpt_some (XE.p (xe_op op_add4 (o_add) (XE.p (xe_op op_add4 (o_add) (xp_var 8 (pv 8)) (XE.p xe_int))) (xp_var 5 (pv 5)))))) kx.nd rfl (by first | exact .inl rfl | exact .inr rfl))) (xss_one (xs_if (xt_cmp (op_eq2 kx.hu) o_eq (xp_var 7 (pv 7)) (XE.p xe_int) rfl) (xss_cons (xs_set 13 (xe_op op_modN (o_mod) (XE.p (xe_int1 rfl mb_int (xp_var 8 (pv 8)))) (XE.p (xe_op op_add4 (o_add) (xp_var 9 (pv 9)) (XE.p xe_int)))) kx.nd rfl (by first | exact .inl rfl | exact .inr rfl)) (xss_one (xs_set 11 (xe_op op_add4 (o_add) (XE.p (xe_op op_add4 (o_add) (XE.p (xe_slice rfl (xp_var 2 (pv 2)) xpt_none (xpt_some (xp_var 13 (pv 13))))) (xp_var 10 (pv 10)))) (XE.p (xe_slice rfl (xp_var 2 (pv 2)) (xpt_some (XE.p (xe_op op_add4 (o_add) (xp_var 13 (pv 13)) (XE.p xe_int)))) (xpt_some (XE.p (xe_op op_add4 (o_add) (xp_var 9 (pv 9)) (XE.p xe_int))))))) kx.nd rfl (by first | exact .inl rfl | exact .inr rfl)))) (xss_one (xs_if (xt_cmp (op_eq2 kx.hu) o_eq (xp_var 7 (pv 7)) (XE.p xe_int) rfl) (xss_cons (xs_set 14 (xe_slice rfl (xp_var 2 (pv 2)) xpt_none (xpt_some (XE.p (xe_op op_add4 (o_add) (xp_var 8 (pv 8)) (XE.p xe_int))))) kx.nd rfl (by first | exact .inl rfl | exact .inr rfl)) (xss_one (xs_set 11 (xe_ix rfl (XO.p (xo_lst (xa_cons (xe_var 14 (pv 14)) (xa_cons (xe_op op_add4 (o_add) (xp_var 10 (pv 10)) (xp_var 14 (pv 14))) (xa_cons (xe_op op_add4 (o_add) (xp_var 14 (pv 14)) (xp_var 10 (pv 10))) xa_nil))))) (XE.p (xe_min2 kx rfl mb_min (xp_var 5 (pv 5)) (XE.p (xe_op op_add4 (o_add) (XE.p xe_int) (XE.p (xe_op op_modN (o_mod) (XE.p (xe_int1 rfl mb_int (xp_var 5 (pv 5)))) (XE.p xe_int))))))) (fun _ _ => rfl)) kx.nd rfl (by first | exact .inl rfl | exact .inr rfl)))) (xss_one (xs_set 11 (xe_join rfl (XO.p (xo_lc (own := [("_law_turn", 12)]) kx (xi_range1 (xa_cons (xe_op op_add4 (o_add) (XE.p xe_int) (XE.p (xe_call g__law_rg_pick.g kx (by omega) g__law_rg_pick.bg rfl (xa_cons (xe_var 0 (pv 0)) (xa_cons xe_int xa_nil))))) xa_nil) rfl mb_range) (by kernel_rfl) (fun _ _ _ _ _ _ kx => (xg_name 12 (pg_name kx.nd rfl (by first | exact .inl rfl | exact .inr rfl)))) (fun _ _ _ _ _ _ kx => xts_nil) (fun _ _ _ _ _ _ kx => (xe_ix rfl (xp_var 6 (pv 6)) (XE.p (xe_call g__law_rg_pick.g kx (by omega) g__law_rg_pick.bg rfl (xa_cons (xe_var 0 (pv 0)) (xa_cons xe_int xa_nil)))) (fun _ _ => rfl))) (by decide)))) kx.nd rfl (by first | exact .inl rfl | exact .inr rfl)))))))))) (xss_one (xs_app 4 kx (pv 4) (xe_var 11 (pv 11))))))) (xss_cons (xs_if (xt_cmp op_lt2 o_lt (XE.p (xe_lenSet kx rfl mb_len rfl mb_set (xp_var 4 (pv 4)))) (xp_var 1 (pv 1)) rfl) (xss_one (xs_retO (xo_lc (own := [("_law_rank", 5)]) kx (xi_range1 (xa_cons (xe_var 1 (pv 1)) xa_nil) rfl mb_range) (by kernel_rfl) (fun _ _ _ _ _ _ kx => (xg_name 5 (pg_name kx.nd rfl (by first | exact .inl rfl | exact .inr rfl)))) (fun _ _ _ _ _ _ kx => xts_nil) (fun _ _ _ _ _ _ kx => (xe_op op_add4 (o_add) (XE.p (xe_slice rfl (xp_var 2 (pv 2)) xpt_none (xpt_some (XE.p xe_int)))) (XE.p (xe_ix rfl (xp_var 6 (pv 6)) (xp_var 5 (pv 5)) (fun _ _ => rfl))))) (by decide)))) xss_nil) (xss_one (xs_retV 4 (pv 4))))))))))

/-! ### _law_rg_row -/
abbrev N__law_rg_row : List Str := ["_law_span_here", "_law_counts_here", "_law_many", "_law_rightward", "_law_labels", "_law_form_here", "_law_label"]
abbrev P__law_rg_row : List Str := ["_law_span_here", "_law_counts_here", "_law_many", "_law_rightward", "_law_labels"]
def p0__law_rg_row (ρ : Rho) (Q : D → Rho → Zs → Prop) (X : Er → Rho → Zs → Prop) (z : Zs) : Prop := (eTup (aC (eVar 6) (aC (eVar 5) aN))) ρ Q X z
def s__law_rg_row : E Fl := (sSeq (sAsg (eIf (tV (ePk 3)) (eTup (aC (ep (.int 0)) (aC (eVar 2) aN))) (eTup (aC (ep (.int 1)) (aC (bO dSub (ep (.int 0)) (ePk 2)) aN)))) (gN 5))
    (sRet (eTup (aC (eVar 0) (aC (eVar 1) (aC (eTup (aC (ep (.str "done")) (aC (eTup (aC (ep (.int 0)) (aC (ep (.int 1)) aN))) (aC (eVar 5) (aC (oP (eLc [6] (eb (eVar 4) fSeqI) (gN 6) (ep true) p0__law_rg_row)) aN))))) aN))))))
def m__law_rg_row : List D → E0 D := dF 7 s__law_rg_row
theorem me__law_rg_row (a0 a1 a2 a3 a4 : D) (Q : D → Zs → Prop) (X : Er → Zs → Prop) (z : Zs) : m__law_rg_row [a0, a1, a2, a3, a4] Q X z = s__law_rg_row [Sl.fr a0, Sl.fr a1, Sl.fr a2, Sl.fr a3, Sl.fr a4, Sl.no, Sl.no] (outF Q) (fun e _ z => X e z) z := rfl
theorem sc__law_rg_row : FnScope N__law_rg_row P__law_rg_row (defScope (top 50)) := ⟨rfl, rfl, rfl, by decide +kernel, rfl, by decide +kernel, by decide +kernel⟩
theorem ok__law_rg_row (B : Ctx P w K mg base) : ∃ fd, GFn P w K mg base "_law_rg_row" 1 (He.fAd K ("_law_rg_row", none)) fd P__law_rg_row (spF K mg 5 m__law_rg_row) := by
  obtain ⟨fd, F⟩ := B.2.2.1.def_ 48 (d := d50) rfl
  refine ⟨fd, ⟨fnF_of (k := 0) F sc__law_rg_row fun cdv A outer s H E pa F0 kx => ?_, mg__law_rg_row B, F.kp, bg_pos (F.bindsN fun _ _ _ _ _ _ us hl => match us, hl with | [_, _, _, _, _], _ => rfl)⟩⟩
  exact (xss_cons (xs_set 5 (xe_if (xt_tru rfl (xp_var 3 (pv 3))) (xe_tup (xa_cons xe_int (xa_cons (xe_var 2 (pv 2)) xa_nil))) (xe_tup (xa_cons xe_int (xa_cons (xe_op op_sub (o_sub) (XE.p xe_int) (xp_var 2 (pv 2))) xa_nil)))) kx.nd rfl (by first | exact .inl rfl | exact .inr rfl)) (xss_one (xs_ret (xe_tup (xa_cons (xe_var 0 (pv 0)) (xa_cons (xe_var 1 (pv 1)) (xa_cons (xe_tup (xa_cons xe_str (xa_cons (xe_tup (xa_cons xe_int (xa_cons xe_int xa_nil))) (xa_cons (xe_var 5 (pv 5)) (xa_cons (XO.fz (xo_lc (own := [("_law_label", 6)]) kx (xi_seq rfl (xe_var 4 (pv 4))) (by kernel_rfl) (fun _ _ _ _ _ _ kx => (xg_name 6 (pg_name kx.nd rfl (by first | exact .inl rfl | exact .inr rfl)))) (fun _ _ _ _ _ _ kx => xts_nil) (fun _ _ _ _ _ _ kx => (xe_tup (xa_cons (xe_var 6 (pv 6)) (xa_cons (xe_var 5 (pv 5)) xa_nil)))) (by decide))) xa_nil))))) xa_nil)))))))

/-! ### _law_rg_rows -/
abbrev N__law_rg_rows : List Str := ["_law_word", "_law_many", "_law_rightward", "_law_labels", "_law_lowest", "_law_found", "_law_less", "_law_count", "_law_between"]
abbrev P__law_rg_rows : List Str := ["_law_word", "_law_many", "_law_rightward", "_law_labels"]
def p0__law_rg_rows (ρ : Rho) (Q : Fl → Rho → Zs → Prop) (X : Er → Rho → Zs → Prop) (z : Zs) : Prop := (sSeq (sAsg (bO dSub (ePk 1) (ePk 6)) (gN 7))
    (sSeq (sAsg (eTup (aC (eTup (aC (ep (.int 1)) (aC (bO dAdd (ePk 7) (ep (.int 1))) aN))) (aC (ep (.bl false)) (aC (eTup (aC (ep (.int 1)) (aC (eVar 7) aN))) (aC (ep (.bl true)) aN))))) (gN 8))
    (sApp 5 (eCall 5 5 0 m__law_rg_row gL (aC (eVar 8) (aC (oP (eLst (aC (eVar 7) aN))) (aC (eVar 7) (aC (eVar 2) (aC (eVar 3) aN))))) aN)))) ρ Q X z
def s__law_rg_rows : E Fl := (sSeq (sAsg (eTup (aC (eTup (aC (ep (.int 0)) (aC (ep (.int 1)) aN))) (aC (ep (.bl false)) (aC (eTup (aC (ep (.int 1)) (aC (eVar 1) aN))) (aC (ep (.bl true)) aN))))) (gN 4))
    (sSeq (sIf (eT (bO dEq (ePk 0) (ep (.str "steps"))))
    (sSeq (sAsgO (eLst (aC (eCall 5 5 0 m__law_rg_row gL (aC (eVar 4) (aC (oP (eLst aN)) (aC (eVar 1) (aC (eVar 2) (aC (eVar 3) aN))))) aN) aN)) 5)
    (sSeq (sIf (eT (bO dGt (ePk 1) (ep (.int 1))))
    (sApp 5 (eTup (aC (eTup (aC (eTup (aC (ep (.int 1)) (aC (eVar 1) aN))) (aC (ep (.bl false)) (aC (eTup (aC (ep (.int 1)) (aC (ep (.int 1)) aN))) (aC (ep (.bl true)) aN))))) (aC (oP (eLst aN)) (aC (eTup (aC (ep (.str "failed")) (aC (bO dSub (ep (.int 1)) (uO dInt (ePk 2))) (aC (ep (.str "beyond")) aN)))) aN)))))
    (ep .nx))
    (sRetV 5)))
    (ep .nx))
    (sSeq (sAsgO (eLst (aC (eCall 5 5 0 m__law_rg_row gL (aC (eVar 4) (aC (oP (eLst (aC (eVar 1) aN))) (aC (eVar 1) (aC (eVar 2) (aC (eVar 3) aN))))) aN) aN)) 5)
    (sSeq (sFor (eb (aC (ep (.int 1)) (aC (eVar 1) aN)) fRng2) (gN 6) p0__law_rg_rows)
    (sRetV 5)))))
def m__law_rg_rows : List D → E0 (List D) := dO 9 s__law_rg_rows
theorem me__law_rg_rows (a0 a1 a2 a3 : D) (Q : List D → Zs → Prop) (X : Er → Zs → Prop) (z : Zs) : m__law_rg_rows [a0, a1, a2, a3] Q X z = s__law_rg_rows [Sl.fr a0, Sl.fr a1, Sl.fr a2, Sl.fr a3, Sl.no, Sl.no, Sl.no, Sl.no, Sl.no] (outO Q) (fun e _ z => X e z) z := rfl
theorem sc__law_rg_rows : FnScope N__law_rg_rows P__law_rg_rows (defScope (top 51)) := ⟨rfl, rfl, rfl, by decide +kernel, rfl, by decide +kernel, by decide +kernel⟩
theorem ok__law_rg_rows (B : Ctx P w K mg base) : ∃ fd, GFn P w K mg base "_law_rg_rows" 2 (He.fAd K ("_law_rg_rows", none)) fd P__law_rg_rows (spO K mg 4 m__law_rg_rows) := by
  obtain ⟨fd, F⟩ := B.2.2.1.def_ 49 (d := d51) rfl
  obtain ⟨fd__law_rg_row, g__law_rg_row⟩ := ok__law_rg_row B
  have mb_int := mbf_int B
  have mb_range := mbf_range B
  refine ⟨fd, ⟨fnO_of (k := 1) F sc__law_rg_rows fun cdv A outer s H E pa F0 kx => ?_, mg__law_rg_rows B, F.kp, bg_pos (F.bindsN fun _ _ _ _ _ _ us hl => match us, hl with | [_, _, _, _], _ => rfl)⟩⟩
  exact (xss_cons (xs_set 4 (xe_tup (xa_cons (xe_tup (xa_cons xe_int (xa_cons xe_int xa_nil))) (xa_cons xe_bl (xa_cons (xe_tup (xa_cons xe_int (xa_cons (xe_var 1 (pv 1)) xa_nil))) (xa_cons xe_bl xa_nil))))) kx.nd rfl (by first | exact .inl rfl | exact .inr rfl)) (xss_cons (xs_if (xt_cmp (op_eq2 kx.hu) o_eq (xp_var 0 (pv 0)) (XE.p xe_str) rfl) (xss_cons (xs_setO 5 (xo_lst (xa_cons (xe_call g__law_rg_row.g kx (by omega) g__law_rg_row.bg rfl (xa_cons (xe_var 4 (pv 4)) (xa_cons (XO.fz (xo_lst xa_nil)) (xa_cons (xe_var 1 (pv 1)) (xa_cons (xe_var 2 (pv 2)) (xa_cons (xe_var 3 (pv 3)) xa_nil)))))) xa_nil)) kx.nd rfl (by first | exact .inl rfl | exact .inr rfl)) (xss_cons (xs_if (xt_cmp op_gt o_gt (xp_var 1 (pv 1)) (XE.p xe_int) rfl) (xss_one (xs_app 5 kx (pv 5) (xe_tup (xa_cons (xe_tup (xa_cons (xe_tup (xa_cons xe_int (xa_cons (xe_var 1 (pv 1)) xa_nil))) (xa_cons xe_bl (xa_cons (xe_tup (xa_cons xe_int (xa_cons xe_int xa_nil))) (xa_cons xe_bl xa_nil))))) (xa_cons (XO.fz (xo_lst xa_nil)) (xa_cons (xe_tup (xa_cons xe_str (xa_cons (xe_op op_sub (o_sub) (XE.p xe_int) (XE.p (xe_int1 rfl mb_int (xp_var 2 (pv 2))))) (xa_cons xe_str xa_nil)))) xa_nil)))))) xss_nil) (xss_one (xs_retV 5 (pv 5))))) xss_nil) (xss_cons (xs_setO 5 (xo_lst (xa_cons (xe_call g__law_rg_row.g kx (by omega) g__law_rg_row.bg rfl (xa_cons (xe_var 4 (pv 4)) (xa_cons (XO.fz (xo_lst (xa_cons (xe_var 1 (pv 1)) xa_nil))) (xa_cons (xe_var 1 (pv 1)) (xa_cons (xe_var 2 (pv 2)) (xa_cons (xe_var 3 (pv 3)) xa_nil)))))) xa_nil)) kx.nd rfl (by first | exact .inl rfl | exact .inr rfl)) (xss_cons (xs_for kx (xi_range2 (xa_cons xe_int (xa_cons (xe_var 1 (pv 1)) xa_nil)) rfl mb_range) (xg_name 6 (pg_name kx.nd rfl (by first | exact .inl rfl | exact .inr rfl))) (xss_cons (xs_set 7 (xe_op op_sub (o_sub) (xp_var 1 (pv 1)) (xp_var 6 (pv 6))) kx.nd rfl (by first | exact .inl rfl | exact .inr rfl)) (xss_cons (xs_set 8 (xe_tup (xa_cons (xe_tup (xa_cons xe_int (xa_cons (xe_op op_add4 (o_add) (xp_var 7 (pv 7)) (XE.p xe_int)) xa_nil))) (xa_cons xe_bl (xa_cons (xe_tup (xa_cons xe_int (xa_cons (xe_var 7 (pv 7)) xa_nil))) (xa_cons xe_bl xa_nil))))) kx.nd rfl (by first | exact .inl rfl | exact .inr rfl)) (xss_one (xs_app 5 kx (pv 5) (xe_call g__law_rg_row.g kx (by omega) g__law_rg_row.bg rfl (xa_cons (xe_var 8 (pv 8)) (xa_cons (XO.fz (xo_lst (xa_cons (xe_var 7 (pv 7)) xa_nil))) (xa_cons (xe_var 7 (pv 7)) (xa_cons (xe_var 2 (pv 2)) (xa_cons (xe_var 3 (pv 3)) xa_nil))))))))))) (xss_one (xs_retV 5 (pv 5)))))))

/-! ### _law_rg_right -/
abbrev N__law_rg_right : List Str := ["_law_sack", "_law_deeds_here", "_law_due", "_law_word", "_law_many", "_law_rightward", "_law_labels", "_law_turn", "_law_label"]
abbrev P__law_rg_right : List Str := ["_law_sack"]
def p0__law_rg_right (ρ : Rho) (Q : D → Rho → Zs → Prop) (X : Er → Rho → Zs → Prop) (z : Zs) : Prop := (eTup (aC (ep (.str "mark")) (aC (eVar 8) aN))) ρ Q X z
def p1__law_rg_right (ρ : Rho) (Q : D → Rho → Zs → Prop) (X : Er → Rho → Zs → Prop) (z : Zs) : Prop := (eTup (aC (ep (.str "right")) aN)) ρ Q X z
def s__law_rg_right : E Fl := (sSeq (sPar 3 4 (aC (bO dIx (oP (eLst (aC (ep (.str "fill")) (aC (ep (.str "steps")) aN)))) (eCall 2 2 0 m__law_rg_pick gL (aC (eVar 0) (aC (ep (.int 2)) aN)) aN)) (aC (bO dAdd (ep (.int 1)) (eCall 2 2 0 m__law_rg_pick gL (aC (eVar 0) (aC (ep (.int 5)) aN)) aN)) aN)))
    (sSeq (sPar 5 6 (aC (bO dEq (eCall 2 2 0 m__law_rg_pick gL (aC (eVar 0) (aC (ep (.int 2)) aN)) aN) (ep (.int 0))) (aC (oP (eb (oP (eCall 2 2 0 m__law_rg_names gL (aC (eVar 0) (aC (ep (.int 1)) aN)) aN)) fun d => eb (ep none) fun lo => eb (eb (eCall 2 2 0 m__law_rg_pick gL (aC (eVar 0) (aC (ep (.int 2)) aN)) aN) fPart) fun hi => fSlO d lo hi)) aN)))
    (sSeq (sAsg (oP (bC (oP (eLc [7] (eb (aC (bO dSub (ep (.int 1)) (uO dInt (ePk 5))) aN) fRng1) (gN 7) (ep true) p1__law_rg_right)) (oP (eLst (aC (eTup (aC (eVar 3) (aC (eVar 4) aN))) aN))))) (gN 1))
    (sSeq (sAsg (oP (bC (ePk 1) (oP (eLc [8] (eb (eVar 6) fSeqI) (gN 8) (ep true) p0__law_rg_right)))) (gN 1))
    (sSeq (sAsg (oP (eCall 4 4 0 m__law_rg_rows gL (aC (eVar 3) (aC (eVar 4) (aC (eVar 5) (aC (eVar 6) aN)))) aN)) (gN 2))
    (sRet (eAndV (bO dEq (uO dRepr (oP (eCall 1 1 0 m_ranges gL (aC (eNew "Script" ["kept"] 1 0 m_Script___init__ (aC (eVar 1) aN) aN) aN) aN))) (uO dRepr (ePk 2))) (bO dEq (uO dRepr (oP (eCall 1 0 1 m_ranges (gP [0]) aN (aC (eNew "Script" ["kept"] 1 0 m_Script___init__ (aC (eVar 1) aN) aN) aN)))) (uO dRepr (ePk 2))))))))))
def m__law_rg_right : List D → E0 D := dF 9 s__law_rg_right
theorem me__law_rg_right (a0 : D) (Q : D → Zs → Prop) (X : Er → Zs → Prop) (z : Zs) : m__law_rg_right [a0] Q X z = s__law_rg_right [Sl.fr a0, Sl.no, Sl.no, Sl.no, Sl.no, Sl.no, Sl.no, Sl.no, Sl.no] (outF Q) (fun e _ z => X e z) z := rfl
theorem sc__law_rg_right : FnScope N__law_rg_right P__law_rg_right (defScope (top 52)) := ⟨rfl, rfl, rfl, by decide +kernel, rfl, by decide +kernel, by decide +kernel⟩
theorem ok__law_rg_right (B : Ctx P w K mg base) : ∃ fd, GFn P w K mg base "_law_rg_right" 11 (He.fAd K ("_law_rg_right", none)) fd P__law_rg_right (spF K mg 1 m__law_rg_right) := by
  obtain ⟨fd, F⟩ := B.2.2.1.def_ 50 (d := d52) rfl
  obtain ⟨fd_ranges, g_ranges, bk0_ranges⟩ := ok_ranges B
  obtain ⟨fd_Script___init__, g_Script___init__, bk_Script___init__⟩ := ok_Script___init__ B
  obtain ⟨fd__law_rg_rows, g__law_rg_rows⟩ := ok__law_rg_rows B
  obtain ⟨fd__law_rg_pick, g__law_rg_pick⟩ := ok__law_rg_pick B
  obtain ⟨fd__law_rg_names, g__law_rg_names⟩ := ok__law_rg_names B
  have mb_int := mbf_int B
  have mb_range := mbf_range B
  have mb_repr := mbf_repr B
  refine ⟨fd, ⟨fnF_of (k := 10) F sc__law_rg_right fun cdv A outer s H E pa F0 kx => ?_, mg__law_rg_right B, F.kp, bg_pos (F.bindsN fun _ _ _ _ _ _ us hl => match us, hl with | [_], _ => rfl)⟩⟩
  exact (xss_cons (xs_par 3 4 kx.calm kx.nd rfl rfl (by decide) rfl rfl (xa_cons (xe_ix rfl (XO.p (xo_lst (xa_cons xe_str (xa_cons xe_str xa_nil)))) (XE.p (xe_call g__law_rg_pick.g kx (by omega) g__law_rg_pick.bg rfl (xa_cons (xe_var 0 (pv 0)) (xa_cons xe_int xa_nil)))) (fun _ _ => rfl)) (xa_cons (xe_op op_add4 (o_add) (XE.p xe_int) (XE.p (xe_call g__law_rg_pick.g kx (by omega) g__law_rg_pick.bg rfl (xa_cons (xe_var 0 (pv 0)) (xa_cons xe_int xa_nil))))) xa_nil)) rfl) (xss_cons (xs_par 5 6 kx.calm kx.nd rfl rfl (by decide) rfl rfl (xa_cons (xe_cmp (op_eq2 kx.hu) o_eq (XE.p (xe_call g__law_rg_pick.g kx (by omega) g__law_rg_pick.bg rfl (xa_cons (xe_var 0 (pv 0)) (xa_cons xe_int xa_nil)))) (XE.p xe_int) rfl) (xa_cons (XO.fz (xo_slice rfl (XO.p (xo_call g__law_rg_names.g kx (by omega) g__law_rg_names.bg rfl (xa_cons (xe_var 0 (pv 0)) (xa_cons xe_int xa_nil)))) xpt_none (xpt_some (XE.p (xe_call g__law_rg_pick.g kx (by omega) g__law_rg_pick.bg rfl (xa_cons (xe_var 0 (pv 0)) (xa_cons xe_int xa_nil))))))) xa_nil)) rfl) (xss_cons (xs_set 1 (XO.fz (xo_op op_add4 o_cat (XO.p (xo_lc (own := [("_law_turn", 7)]) kx (xi_range1 (xa_cons (xe_op op_sub (o_sub) (XE.p xe_int) (XE.p (xe_int1 rfl mb_int (xp_var 5 (pv 5))))) xa_nil) rfl mb_range) (by kernel_rfl) (fun _ _ _ _ _ _ kx => (xg_name 7 (pg_name kx.nd rfl (by first | exact .inl rfl | exact .inr rfl)))) (fun _ _ _ _ _ _ kx => xts_nil) (fun _ _ _ _ _ _ kx => (xe_tup (xa_cons xe_str xa_nil))) (by decide))) (XO.p (xo_lst (xa_cons (xe_tup (xa_cons (xe_var 3 (pv 3)) (xa_cons (xe_var 4 (pv 4)) xa_nil))) xa_nil))))) kx.nd rfl (by first | exact .inl rfl | exact .inr rfl)) (xss_cons (xs_set 1 (XO.fz (xo_op op_add4 o_cat (xp_var 1 (pv 1)) (XO.p (xo_lc (own := [("_law_label", 8)]) kx (xi_seq rfl (xe_var 6 (pv 6))) (by kernel_rfl) (fun _ _ _ _ _ _ kx => (xg_name 8 (pg_name kx.nd rfl (by first | exact .inl rfl | exact .inr rfl)))) (fun _ _ _ _ _ _ kx => xts_nil) (fun _ _ _ _ _ _ kx => (xe_tup (xa_cons xe_str (xa_cons (xe_var 8 (pv 8)) xa_nil)))) (by decide))))) kx.nd rfl (by first | exact .inl rfl | exact .inr rfl)) (xss_cons (xs_set 2 (XO.fz (xo_call g__law_rg_rows.g kx (by omega) g__law_rg_rows.bg rfl (xa_cons (xe_var 3 (pv 3)) (xa_cons (xe_var 4 (pv 4)) (xa_cons (xe_var 5 (pv 5)) (xa_cons (xe_var 6 (pv 6)) xa_nil)))))) kx.nd rfl (by first | exact .inl rfl | exact .inr rfl)) (xss_one (xs_ret (xe_and (xe_cmp (op_eq2 kx.hu) o_eq (XE.p (xe_repr kx rfl mb_repr (XO.p (xo_call g_ranges.g kx (by omega) g_ranges.bg rfl (xa_cons (xe_new g_Script___init__.g kx (by omega) g_Script___init__.bg (noat_Script B) rfl (xa_cons (xe_var 1 (pv 1)) xa_nil)) xa_nil))))) (XE.p (xe_repr kx rfl mb_repr (xp_var 2 (pv 2)))) rfl) (xe_one (xe_cmp (op_eq2 kx.hu) o_eq (XE.p (xe_repr kx rfl mb_repr (XO.p (xo_callK0 g_ranges.g kx (by omega) bk0_ranges rfl (xk_cons (xe_new g_Script___init__.g kx (by omega) g_Script___init__.bg (noat_Script B) rfl (xa_cons (xe_var 1 (pv 1)) xa_nil)) xk_nil))))) (XE.p (xe_repr kx rfl mb_repr (xp_var 2 (pv 2)))) rfl))))))))))

/-! ### law -/
abbrev N_law : List Str := ["_law_script", "_law_spot"]
abbrev P_law : List Str := ["_law_script"]
def p0_law (ρ : Rho) (Q : Fl → Rho → Zs → Prop) (X : Er → Rho → Zs → Prop) (z : Zs) : Prop := (sIf (tN (tV (eb (eCall 2 2 0 m__law_rg_sack gL (aC (eVar 0) (aC (eVar 1) aN)) aN) (fRight m__law_rg_right))))
    (sRet (ep (.bl false)))
    (ep .nx)) ρ Q X z
def s_law : E Fl := (sSeq (sFor (eb (aC (bO dMax (ep (.int 1)) (bO dMin (ep (.int 63)) (uO dLen (ePk 0)))) aN) fRng1) (gN 1) p0_law)
    (sRet (ep (.bl true))))
def m_law : List D → E0 D := dF 2 s_law
theorem me_law (a0 : D) (Q : D → Zs → Prop) (X : Er → Zs → Prop) (z : Zs) : m_law [a0] Q X z = s_law [Sl.fr a0, Sl.no] (outF Q) (fun e _ z => X e z) z := rfl
theorem sc_law : FnScope N_law P_law (defScope (top 53)) := ⟨rfl, rfl, rfl, by decide +kernel, rfl, by decide +kernel, by decide +kernel⟩
theorem ok_law (B : Ctx P w K mg base) {fd : FuncData} (F : FunD K "law" "law" (defArgs (top 53)) (defBody (top 53)) (defScope (top 53)) [] [] (He.fAd K ("law", none)) fd) : FnG P w K mg base 12 (He.fAd K ("law", none)) fd P_law (spL K mg 1 m_law) := by
  obtain ⟨fd__law_rg_right, g__law_rg_right⟩ := ok__law_rg_right B
  obtain ⟨fd__law_rg_sack, g__law_rg_sack⟩ := ok__law_rg_sack B
  have mb_len := mbf_len B
  have mb_max := mbf_max B
  have mb_min := mbf_min B
  have mb_range := mbf_range B
  refine fnL_of (k := 11) F sc_law fun cdv A outer s H E F0 kx => ?_
  exact (xss_cons (xs_for kx (xi_range1 (xa_cons (xe_max2 kx rfl mb_max (XE.p xe_int) (XE.p (xe_min2 kx rfl mb_min (XE.p xe_int) (XE.p (xe_len rfl rfl mb_len (xp_var 0 (pv 0))))))) xa_nil) rfl mb_range) (xg_name 1 (pg_name kx.nd rfl (by first | exact .inl rfl | exact .inr rfl))) (xss_one (xs_if (xt_not (xt_tru rfl (XE.p (xe_right rfl g__law_rg_right.g kx (by omega) g__law_rg_right.bg rfl (xo_call g__law_rg_sack.g kx (by omega) g__law_rg_sack.bg rfl (xa_cons (xe_var 0 (pv 0)) (xa_cons (xe_var 1 (pv 1)) xa_nil))))))) (xss_one (xs_ret xe_bl)) xss_nil))) (xss_one (xs_ret xe_bl)))
end
end LW

namespace LW
open PySem PySem.Spec PyProof.Rows L2 DL
theorem le_mul {a y : Int} (ha : 0 ≤ a) (hy : 1 ≤ y) : a ≤ a * y := by
  have := Int.mul_le_mul_of_nonneg_left hy ha
  omega
theorem lt_of_mul {x y b : Int} (hb : 0 < b) (h : x * b < y * b) : x < y := Int.lt_of_mul_lt_mul_right h (by omega)
/-! the common divisor -/
theorem wh_gcd (n : Nat) : ∀ (a b : Int) (Q : Fl → Rho → Zs → Prop) (X : Er → Rho → Zs → Prop) (z : Zs), 0 ≤ a → 0 ≤ b → b < n → (Q .nx [Sl.fr (.int (Int.gcd a b)), Sl.fr (.int 0)] z) →
    whL p0_common_divisor p1_common_divisor n [Sl.fr (.int a), Sl.fr (.int b)] Q X z := by
  induction n with
  | zero => intro a b Q X z h1 h2 h3; omega
  | succ n ih =>
    intro a b Q X z h1 h2 h3 hQ
    rw [whL_succ]
    by_cases hb : b = 0
    · subst hb
      simp [p0_common_divisor]
      rw [Int.gcd_zero_right] at hQ
      rwa [Int.natAbs_of_nonneg h1] at hQ
    · have := fmod_b a (b := b) (by omega)
      simp [p0_common_divisor, p1_common_divisor, hb]
      refine ih b (a.fmod b) Q X z h2 this.1 (by omega) ?_
      rw [gcd_step a b h1 (by omega)]
      exact hQ
theorem w_common_divisor (a b : Int) (Q : D → Zs → Prop) (X : Er → Zs → Prop) (z : Zs) (h : ∀ g : Int, g = Int.gcd a b → Q (.int g) z) : m_common_divisor [.int a, .int b] Q X z := by
  rw [me_common_divisor]
  simp [s_common_divisor]
  rw [sWhile_a]
  refine ⟨(if b < 0 then -b else b).toNat + 1, wh_gcd _ _ _ _ _ _ (by split <;> omega) (by split <;> omega) (by split <;> omega) ?_⟩
  rw [gcd_abs]
  simpa using h _ rfl
/-- the divisor with its sign -/
def shr (a b : Int) : Int := if b < 0 then -(Int.gcd a b : Int) else Int.gcd a b
theorem shr_ok {a b : Int} (h : b ≠ 0) (hb : b.natAbs < 2 ^ 1000) : shr a b ≠ 0 ∧ (shr a b).natAbs.log2 < 9000 := by
  have h1 : 0 < Int.gcd a b := Int.gcd_pos_iff.mpr (.inr h)
  have h2 : Int.gcd a b ≤ b.natAbs := Nat.le_of_dvd (by omega) (Int.gcd_dvd_natAbs_right a b)
  have h3 : (shr a b).natAbs = Int.gcd a b := by unfold shr; split <;> omega
  refine ⟨fun e => by rw [e] at h3; omega, log_lt2 (by omega)⟩
def rat (a b : Int) : D := .tup [.int (a.fdiv (shr a b)), .int (b.fdiv (shr a b))]
theorem w_fraction (a b : Int) (Q : D → Zs → Prop) (X : Er → Zs → Prop) (z : Zs) (hb : b.natAbs < 2 ^ 1000) (h0 : b = 0 → X ("InvalidFraction", .tup [.int a, .int b]) z)
    (h : b ≠ 0 → Q (rat a b) z) : m_fraction [.int a, .int b] Q X z := by
  rw [me_fraction]
  simp [s_fraction]
  refine ⟨h0, fun hb0 => w_common_divisor a b _ _ z fun g hg => ?_⟩
  have hs := shr_ok (a := a) hb0 hb
  have hr := h hb0
  unfold rat at hr
  unfold shr at hs hr
  rw [← hg] at hs hr
  by_cases hn : b < 0
  · rw [if_pos hn] at hs hr
    have h1 : ¬ g = 0 := by omega
    have h2 : g.natAbs.log2 < 9000 := by simpa using hs.2
    simp [hn, h1, h2, hr, show ¬ 0 ≤ b by omega]
  · rw [if_neg hn] at hs hr
    have h1 : ¬ g = 0 := by omega
    simp [hn, h1, hs.2, hr]
def prD (p : Int × Int) : D := .tup [.int p.1, .int p.2]
/-- the lowest terms -/
def rr (u v : Int) : Int × Int := (u.fdiv (shr u v), v.fdiv (shr u v))
theorem rat_rr (u v : Int) : rat u v = prD (rr u v) := rfl
end LW

namespace LW
open PySem PySem.Spec PyProof.Rows L2 DL
/-! the draws -/
theorem w__law_rg_pick (n : Int) (Q : D → Zs → Prop) (X : Er → Zs → Prop) (z : Zs) (hn : 0 < n) (hn2 : n < 10 ^ 18) (hz : z.n < 10 ^ 18) (h : ∀ (c m : Int), 0 ≤ c → c < n → m ≤ z.n + 1 → Q (.int c) { z with n := m }) : m__law_rg_pick [.cel, .int n] Q X z := by
  rw [me__law_rg_pick]
  have e1 : (10 : Int) ^ 18 = 1000000000000000000 := by decide
  have n0 : ¬ n = 0 := by omega
  simp [s__law_rg_pick, n0]
  intro x hx
  refine ⟨fun h1 x2 hx2 x3 hx3 => ?_, fun h1 h0 => ⟨by omega, fun y hy hy2 _ => ?_⟩⟩
  · have := fmod_b x2 hn
    exact ⟨log_lt (by omega), Int.fdiv_nonneg hx3 (by omega), h _ _ this.1 this.2 (by omega)⟩
  · refine ⟨mulC_l (by omega), bits_3 (by omega), fun _ => ⟨mulC_l (by omega), bits_2 ?_, log4096, ?_⟩⟩
    · have := fmod_b ((y + 1640531527 * (z.n + 1)) ^ 3) (b := 10000000000000000000000013) (by omega)
      omega
    · have := fmod_b ((((((y + 1640531527 * (z.n + 1)) ^ 3).fmod 10000000000000000000000013 + 362437069 * (z.n + 1)) ^ 2).fmod 1000000000000000000000007).fdiv 4096) hn
      exact h _ _ this.1 this.2 (by omega)
theorem w__law_rg_sack (ns : List Int) (i : Nat) (Q : List D → Zs → Prop) (X : Er → Zs → Prop) (z : Zs) (hi : i < 1000) (h : ∀ x y : Int, 0 ≤ x → 0 ≤ y → y < 10 ^ 24 + 7 → Q [.int x, .int y, .int 0] z) : m__law_rg_sack [.scr ns, .int i] Q X z := by
  rw [me__law_rg_sack]
  simp [s__law_rg_sack]
  refine ⟨fun hl => ⟨ns[i], atI_nat ns i hl, mulC_r (by omega), mulC_r (by omega), ?_⟩, fun hl => ⟨mulC_r (by omega), mulC_r (by omega), ?_⟩⟩
  · have := fmod_b (ns[i] * 48611 + ↑i * 7368787 + 15485863) (b := 1000000000000000000000007) (by omega)
    refine h _ _ ?_ this.1 (by omega)
    split <;> omega
  · have := fmod_b (↑i * 7368787 + 15485863) (b := 1000000000000000000000007) (by omega)
    exact h _ _ (by omega) this.1 (by omega)
end LW

namespace LW
open PySem PySem.Spec PyProof.Rows L2 DL
inductive Dd where
  | left | right | turn | gap | rest
  | steps (n : Int) | fill (n : Int)
  | mark (a : Str) | go (a : Str) | span (a c : Str)
def Dd.D : Dd → D
  | .left => .tup [.str "left"]
  | .right => .tup [.str "right"]
  | .turn => .tup [.str "turn"]
  | .gap => .tup [.str "gap"]
  | .rest => .tup [.str "rest"]
  | .steps n => .tup [.str "steps", .int n]
  | .fill n => .tup [.str "fill", .int n]
  | .mark a => .tup [.str "mark", .str a]
  | .go a => .tup [.str "go", .str a]
  | .span a c => .tup [.str "span", .str a, .str c]
/-- a name of a mark -/
def nmOk (a : Str) : Prop := 1 ≤ a.cps.toList.length ∧ a.cps.toList.length ≤ 8 ∧ ∀ c ∈ a.cps.toList, 97 ≤ c ∧ c ≤ 122
def Dd.Ok : Dd → Prop
  | .steps n => 1 ≤ n ∧ n ≤ 99
  | .fill n => 1 ≤ n ∧ n ≤ 99
  | .mark a => nmOk a
  | .go a => nmOk a
  | .span a c => nmOk a ∧ nmOk c
  | _ => True
/-- no mark -/
def Dd.bare : Dd → Bool
  | .mark _ => false
  | .go _ => false
  | .span _ _ => false
  | _ => true
end LW

namespace LW
open PySem PySem.Spec PyProof.Rows L2 DL
theorem dEqG_of {a b : D} {t : Bool} (h1 : a.isPy = true) (h2 : b.isPy = true) (h3 : SeqAt.shaped a.py = true) (h4 : SeqAt.shaped b.py = true) (h5 : PyData.eqv a.py b.py = t) (Q : Bool → Prop) : dEqG a b Q = Q t := by
  unfold dEqG
  rw [h5]
  simp [h1, h2, h3, h4]
section
variable (s a b : Str) (n : Int) (Q : Bool → Prop)
@[simp] theorem eq_l0 : dEqG (.lst []) (.lst []) Q = Q true := dEqG_of rfl rfl (by decide) (by decide) (by simp [D.py, pyL, PyData.eqv, PyData.eqvAll]) Q
theorem eq_l1 (hs : PyData.strOk s = true) : dEqG (.lst [.str s]) (.lst []) Q = Q false := dEqG_of rfl rfl (by simp [D.py, pyL, SeqAt.shaped, PyData.canLay0, PyData.canLayAll0, PyData.depth, PyData.depthAll, hs]) (by decide) (by simp [D.py, pyL, PyData.eqv, PyData.eqvAll]) Q
theorem eq_lu (hs : PyData.strOk s = true) (ha : PyData.strOk a = true) : dEqG (.lst [.tup [.str s, .str a]]) (.lst []) Q = Q false := dEqG_of rfl rfl (by simp [D.py, pyL, SeqAt.shaped, PyData.canLay0, PyData.canLayAll0, PyData.depth, PyData.depthAll, hs, ha]) (by decide) (by simp [D.py, pyL, PyData.eqv, PyData.eqvAll]) Q
end
@[simp] theorem eq_lb (Q : Bool → Prop) : dEqG (.lst [.str "beyond"]) (.lst []) Q = Q false := eq_l1 _ Q (by decide +kernel)
@[simp] theorem eq_ln (Q : Bool → Prop) : dEqG (.lst [.str "nothing"]) (.lst []) Q = Q false := eq_l1 _ Q (by decide +kernel)
theorem eq_t1 (s : Str) (Q : Bool → Prop) (hs : PyData.strOk s = true) : dEqG (.tup [.str s]) (.tup []) Q = Q false := dEqG_of rfl rfl (by simp [D.py, pyL, SeqAt.shaped, PyData.canLay0, PyData.canLayAll0, PyData.depth, PyData.depthAll, hs]) (by decide) (by simp [D.py, pyL, PyData.eqv, PyData.eqvAll]) Q
theorem eq_t2 (s : Str) (n : Int) (Q : Bool → Prop) (hs : PyData.strOk s = true) : dEqG (.tup [.str s, .int n]) (.tup []) Q = Q false := dEqG_of rfl rfl (by simp [D.py, pyL, SeqAt.shaped, PyData.canLay0, PyData.canLayAll0, PyData.depth, PyData.depthAll, hs]) (by decide) (by simp [D.py, pyL, PyData.eqv, PyData.eqvAll]) Q
@[simp] theorem eq_t_left (Q : Bool → Prop) : dEqG (.tup [.str "left"]) (.tup []) Q = Q false := eq_t1 _ Q (by decide +kernel)
@[simp] theorem eq_t_right (Q : Bool → Prop) : dEqG (.tup [.str "right"]) (.tup []) Q = Q false := eq_t1 _ Q (by decide +kernel)
@[simp] theorem eq_t_turn (Q : Bool → Prop) : dEqG (.tup [.str "turn"]) (.tup []) Q = Q false := eq_t1 _ Q (by decide +kernel)
@[simp] theorem eq_t_gap (Q : Bool → Prop) : dEqG (.tup [.str "gap"]) (.tup []) Q = Q false := eq_t1 _ Q (by decide +kernel)
@[simp] theorem eq_t_rest (Q : Bool → Prop) : dEqG (.tup [.str "rest"]) (.tup []) Q = Q false := eq_t1 _ Q (by decide +kernel)
@[simp] theorem eq_t_steps (n : Int) (Q : Bool → Prop) : dEqG (.tup [.str "steps", .int n]) (.tup []) Q = Q false := eq_t2 _ n Q (by decide +kernel)
@[simp] theorem eq_t_fill (n : Int) (Q : Bool → Prop) : dEqG (.tup [.str "fill", .int n]) (.tup []) Q = Q false := eq_t2 _ n Q (by decide +kernel)
@[simp] theorem dNotN_s (s : Str) (Q : D → Prop) : dNotN (.str s) .non Q = Q (.bl true) := propext Iff.rfl
@[simp] theorem dNotN_b (s : Bool) (Q : D → Prop) : dNotN (.bl s) .non Q = Q (.bl true) := propext Iff.rfl
end LW

namespace LW
open PySem PySem.Spec PyProof.Rows L2 DL
/-- a list comprehension without draws over images -/
theorem lc_run {α : Type} (k : Nat) (ρ0 : Rho) (g f : α → D) (hw : ∀ d, wipeR (ρ0.set k (.fr d)) [k] = ρ0) (body : E D) (z : Zs) : ∀ (xs : List α) (acc : List D) (Q : List D → Rho → Zs → Prop) (X : Er → Rho → Zs → Prop),
    (∀ x ∈ xs, ∀ Q' : D → Rho → Zs → Prop, Q' (f x) (ρ0.set k (.fr (g x))) z → body (ρ0.set k (.fr (g x))) Q' (fun _ _ _ => False) z) → acc.length + xs.length ≤ 16777216 → Q (acc ++ xs.map f) ρ0 z → lcL [k] (gN k) (ep true) body (xs.map g) acc ρ0 Q X z := by
  intro xs
  induction xs with
  | nil => intro acc Q X _ _ h; simpa using h
  | cons x xs ih =>
    intro acc Q X hb hl h
    simp only [List.map_cons, List.length_cons] at hl h ⊢
    rw [lcL_cons]
    simp
    refine hb x (List.mem_cons_self ..) _ ⟨by omega, ?_⟩
    rw [hw]
    exact ih _ _ _ (fun y hy => hb y (List.mem_cons_of_mem _ hy)) (by simp; omega) (by simpa using h)
@[simp] theorem tb_left : List.lookup ("left" : Str) tb_DEED_THINGS = some (.tup [.int 0, .int 0]) := by kernel_rfl
@[simp] theorem tb_right : List.lookup ("right" : Str) tb_DEED_THINGS = some (.tup [.int 0, .int 0]) := by kernel_rfl
@[simp] theorem tb_steps : List.lookup ("steps" : Str) tb_DEED_THINGS = some (.tup [.int 1, .int 0]) := by kernel_rfl
@[simp] theorem tb_fill : List.lookup ("fill" : Str) tb_DEED_THINGS = some (.tup [.int 1, .int 0]) := by kernel_rfl
@[simp] theorem tb_gap : List.lookup ("gap" : Str) tb_DEED_THINGS = some (.tup [.int 0, .int 0]) := by kernel_rfl
@[simp] theorem tb_span : List.lookup ("span" : Str) tb_DEED_THINGS = some (.tup [.int 0, .int 2]) := by kernel_rfl
@[simp] theorem tb_mark : List.lookup ("mark" : Str) tb_DEED_THINGS = some (.tup [.int 0, .int 1]) := by kernel_rfl
@[simp] theorem tb_go : List.lookup ("go" : Str) tb_DEED_THINGS = some (.tup [.int 0, .int 1]) := by kernel_rfl
@[simp] theorem tb_turn : List.lookup ("turn" : Str) tb_DEED_THINGS = some (.tup [.int 0, .int 0]) := by kernel_rfl
@[simp] theorem tb_rest : List.lookup ("rest" : Str) tb_DEED_THINGS = some (.tup [.int 0, .int 0]) := by kernel_rfl
theorem dKey_s (tb : List (Str × D)) (s : Str) (Q : D → Prop) : dKey tb (.str s) Q = ∃ d, tb.lookup s = some d ∧ Q d := propext Iff.rfl
theorem dNotInK_s (tb : List (Str × D)) (s : Str) (Q : D → Prop) : dNotInK tb (.str s) Q = Q (.bl (!(tb.lookup s).isSome)) := propext Iff.rfl
theorem cut1 (a : D) (lo : Option Int) : DL.cutD [a] (some 1) none = [] := rfl
theorem cut2_2 (a b : D) : DL.cutD [a, b] (some 2) none = [] := rfl
/-- a deed without marks is one -/
theorem w_names_bare (d : Dd) (hb : d.bare = true) (Q : D → Zs → Prop) (X : Er → Zs → Prop) (z : Zs) (hq : Q (.tup []) z) : m_deed_names [d.D] Q X z := by
  rw [me_deed_names]
  cases d <;> first | (cases hb; done) | skip
  all_goals
    simp [s_deed_names, Dd.D, dKey_s]
    simpa [cut1, cut2_2] using hq
theorem w_checked_bare (d : Dd) (hd : d.Ok) (hb : d.bare = true) (Q : D → Zs → Prop) (X : Er → Zs → Prop) (z : Zs) (hq : Q d.D z) : m_checked_deed [d.D] Q X z := by
  have hn := w_names_bare d hb
  rw [me_checked_deed]
  cases d <;> first | (cases hb; done) | skip
  all_goals
    simp [s_checked_deed, Dd.D, dKey_s, dNotInK_s]
  all_goals
    first
    | (refine hn _ _ z ?_; simp; exact hq)
    | (refine ⟨fun e => absurd hd.1 (by omega), fun _ => ?_⟩; refine hn _ _ z ?_; simp; exact hq)
theorem w_kept (ds : List Dd) (chk : ∀ d ∈ ds, ∀ (Q : D → Zs → Prop) (X : Er → Zs → Prop) (z : Zs), Q d.D z → m_checked_deed [d.D] Q X z) (hl : ds.length < 1000000) (Q : List D → Zs → Prop) (X : Er → Zs → Prop) (z : Zs) (hq : Q (ds.map Dd.D) z) : m_kept_deeds [.lst (ds.map Dd.D)] Q X z := by
  rw [me_kept_deeds]
  simp [s_kept_deeds]
  refine lc_run 1 _ Dd.D Dd.D (fun d => rfl) _ z ds [] _ _ (fun d hd Q' h => ?_) (by simp; omega) (by simpa using hq)
  rw [p0_kept_deeds]
  simp
  exact chk d hd _ _ z h
theorem w_script (ds : List Dd) (chk : ∀ d ∈ ds, ∀ (Q : D → Zs → Prop) (X : Er → Zs → Prop) (z : Zs), Q d.D z → m_checked_deed [d.D] Q X z) (hl : ds.length < 1000000) (Q : List D → Zs → Prop) (X : Er → Zs → Prop) (z : Zs) (hq : Q [.lst (ds.map Dd.D)] z) : m_Script___init__ [.lst (ds.map Dd.D)] Q X z := by
  rw [me_Script___init__]
  simp [s_Script___init__]
  exact w_kept ds chk hl _ _ z hq
abbrev scD (ds : List Dd) : D := .ins "Script" ["kept"] [.lst (ds.map Dd.D)]
theorem w_deeds (ds : List Dd) (Q : List D → Zs → Prop) (X : Er → Zs → Prop) (z : Zs) (hq : Q (ds.map Dd.D) z) : m_Script_deeds [scD ds] Q X z := by
  rw [me_Script_deeds]
  simp [s_Script_deeds, lkp]
  exact hq
end LW

namespace LW
open PySem PySem.Spec PyProof.Rows L2 DL
theorem nm_strOk {a : Str} (h : nmOk a) : PyData.strOk a = true := by
  unfold PyData.strOk
  rw [← Array.all_toList, List.all_eq_true]
  intro c hc
  have := h.2.2 c hc
  simp
  omega
end LW

namespace LW
open PySem PySem.Spec PyProof.Rows L2 DL
theorem strs_lay (ls : List Str) (h : ∀ a ∈ ls, PyData.strOk a = true) : PyData.canLayAll0 (pyL (ls.map .str)) = true ∧ PyData.depthAll (pyL (ls.map .str)) ≤ 1 ∧ isPyL (ls.map .str) = true := by
  induction ls with
  | nil => exact ⟨rfl, by decide, rfl⟩
  | cons a r ih =>
    obtain ⟨h1, h2, h3⟩ := ih fun b hb => h b (List.mem_cons_of_mem _ hb)
    have := h a List.mem_cons_self
    refine ⟨?_, ?_, ?_⟩
    · simp [pyL, D.py, PyData.canLayAll0, PyData.canLay0, h1, this]
    · simp only [List.map_cons, pyL, D.py, PyData.depthAll, PyData.depth]; omega
    · simp [isPyL, D.isPy, h3]
theorem eq_strs (ls : List Str) (h : ∀ a ∈ ls, PyData.strOk a = true) (Q : Bool → Prop) : dEqG (.lst (ls.map .str)) (.lst []) Q = Q ls.isEmpty := by
  obtain ⟨h1, h2, h3⟩ := strs_lay ls h
  refine dEqG_of (t := ls.isEmpty) (by simpa [D.isPy] using h3) rfl ?_ (by decide) ?_ Q
  · simp [D.py, SeqAt.shaped, PyData.canLay0, PyData.depth, h1]; omega
  · cases ls <;> simp [D.py, pyL, PyData.eqv, PyData.eqvAll]
theorem lc_filt {α : Type} (k : Nat) (ρ0 : Rho) (g f : α → D) (p : α → Bool) (hw : ∀ d, wipeR (ρ0.set k (.fr d)) [k] = ρ0) (mt : E Bool) (body : E D) (z : Zs) : ∀ (xs : List α) (acc : List D) (Q : List D → Rho → Zs → Prop) (X : Er → Rho → Zs → Prop),
    (∀ x ∈ xs, ∀ Q' : Bool → Rho → Zs → Prop, Q' (p x) (ρ0.set k (.fr (g x))) z → mt (ρ0.set k (.fr (g x))) Q' (fun _ _ _ => False) z) →
    (∀ x ∈ xs, ∀ Q' : D → Rho → Zs → Prop, Q' (f x) (ρ0.set k (.fr (g x))) z → body (ρ0.set k (.fr (g x))) Q' (fun _ _ _ => False) z) → acc.length + xs.length ≤ 16777216 → Q (acc ++ (xs.filter p).map f) ρ0 z → lcL [k] (gN k) mt body (xs.map g) acc ρ0 Q X z := by
  intro xs
  induction xs with
  | nil => intro acc Q X _ _ _ h; simpa using h
  | cons x xs ih =>
    intro acc Q X hm hb hl h
    simp only [List.map_cons, List.length_cons] at hl h ⊢
    rw [lcL_cons]
    simp
    refine hm x (List.mem_cons_self ..) _ ?_
    have ih' := fun acc => ih acc Q X (fun y hy => hm y (List.mem_cons_of_mem _ hy)) (fun y hy => hb y (List.mem_cons_of_mem _ hy))
    cases e : p x with
    | true =>
      simp only [if_true]
      refine hb x (List.mem_cons_self ..) _ ⟨by omega, ?_⟩
      rw [hw]
      exact ih' _ (by simp; omega) (by simpa [List.filter_cons, e] using h)
    | false =>
      simp only [Bool.false_eq_true, if_false]
      rw [hw]
      exact ih' _ (by omega) (by simpa [List.filter_cons, e] using h)
end LW

namespace LW
open PySem PySem.Spec PyProof.Rows L2 DL
theorem dLen_s (a : Str) (Q : D → Prop) : dLen (.str a) Q = (a.length ≤ 16777216 ∧ Q (.int a.length)) := propext Iff.rfl
theorem let_in : ∀ i : Fin 26, (!(Builtin.Str.occurrences ("abcdefghijklmnopqrstuvwxyz" : Str) (⟨#[97 + i.val]⟩ : Str) 0 ("abcdefghijklmnopqrstuvwxyz" : Str).length 1).isEmpty) = true := by decide +kernel
theorem dIn_let (c : Nat) (h1 : 97 ≤ c) (h2 : c ≤ 122) (Q : D → Prop) : dIn (.str ⟨#[c]⟩) (.str "abcdefghijklmnopqrstuvwxyz") Q = Q (.bl true) := by
  have := let_in ⟨c - 97, by omega⟩
  have e : 97 + (c - 97) = c := by omega
  simp only [e] at this
  show Q (.bl _) = _
  rw [this]
theorem blsOf_true (l : List Nat) : blsOf (l.map fun _ => D.bl true) = some (l.map fun _ => true) := by
  induction l with
  | nil => rfl
  | cons a r ih => simp only [List.map_cons, blsOf, ih]; rfl
theorem w_is_name (a : Str) (h : nmOk a) (Q : D → Zs → Prop) (X : Er → Zs → Prop) (z : Zs) (hq : Q (.bl true) z) : m_is_name [.str a] Q X z := by
  rw [me_is_name]
  have l1 : a.length = a.cps.toList.length := rfl
  have h1 := h.1
  have h2 := h.2.1
  simp [s_is_name, dLen_s]
  refine ⟨by omega, fun _ => ⟨fun _ => ?_, fun k => absurd k (by omega)⟩, fun k => absurd k (by omega)⟩
  show lcL [1] (gN 1) (ep true) p0_is_name (a.cps.toList.map fun c => D.str ⟨#[c]⟩) [] (wipeR [Sl.fr (.str a), Sl.no] [1]) _ _ z
  simp only [wipeR, List.set_cons_zero, List.set_cons_succ]
  refine lc_run 1 _ (fun c : Nat => D.str ⟨#[c]⟩) (fun _ => .bl true) (fun d => rfl) _ z a.cps.toList [] _ _ (fun c hc Q' hQ => ?_) (by simp only [List.length_nil]; omega) ?_
  · obtain ⟨c1, c2⟩ := h.2.2 c hc
    rw [p0_is_name]
    simp
    rw [dIn_let c c1 c2]
    simpa using hQ
  · refine ⟨_, blsOf_true _, ?_⟩
    have : (a.cps.toList.map fun _ => true).all id = true := by simp
    rw [this]; exact hq
theorem w_names (d : Dd) (Q : D → Zs → Prop) (X : Er → Zs → Prop) (z : Zs) (hq : Q (.tup ((match d with | .mark a => [a] | .go a => [a] | .span a c => [a, c] | _ => []).map .str)) z) : m_deed_names [d.D] Q X z := by
  by_cases hb : d.bare = true
  · refine w_names_bare d hb Q X z ?_
    cases d <;> first | (cases hb; done) | exact hq
  rw [me_deed_names]
  have c2 : ∀ x y : D, DL.cutD [x, y] (some 1) none = [y] := fun _ _ => rfl
  have c3 : ∀ x y w : D, DL.cutD [x, y, w] (some 1) none = [y, w] := fun _ _ _ => rfl
  cases d <;> first | (exact absurd rfl hb) | skip
  all_goals
    simp [s_deed_names, Dd.D, dKey_s, c2, c3]
    exact hq
theorem eq_t3 (s a : Str) (Q : Bool → Prop) (hs : PyData.strOk s = true) (ha : PyData.strOk a = true) : dEqG (.tup [.str s, .str a]) (.tup []) Q = Q false := dEqG_of rfl rfl (by simp [D.py, pyL, SeqAt.shaped, PyData.canLay0, PyData.canLayAll0, PyData.depth, PyData.depthAll, hs, ha]) (by decide) (by simp [D.py, pyL, PyData.eqv, PyData.eqvAll]) Q
theorem eq_t4 (s a c : Str) (Q : Bool → Prop) (hs : PyData.strOk s = true) (ha : PyData.strOk a = true) (hc : PyData.strOk c = true) : dEqG (.tup [.str s, .str a, .str c]) (.tup []) Q = Q false := dEqG_of rfl rfl (by simp [D.py, pyL, SeqAt.shaped, PyData.canLay0, PyData.canLayAll0, PyData.depth, PyData.depthAll, hs, ha, hc]) (by decide) (by simp [D.py, pyL, PyData.eqv, PyData.eqvAll]) Q
theorem wl_names (s0 s2 s3 : Sl) (z : Zs) : ∀ (ls : List Str) (t : Sl) (Q : Fl → Rho → Zs → Prop) (X : Er → Rho → Zs → Prop), (∀ a ∈ ls, nmOk a) → (∀ t, Q .nx [s0, t, s2, s3] z) → forL (gN 1) p0_checked_deed (ls.map .str) [s0, t, s2, s3] Q X z := by
  intro ls
  induction ls with
  | nil => intro t Q X _ h; simpa using h t
  | cons a r ih =>
    intro t Q X hn h
    simp only [List.map_cons, forL_cons]
    simp
    rw [p0_checked_deed]
    simp
    refine w_is_name a (hn a List.mem_cons_self) _ _ z ?_
    simp
    exact ih _ Q X (fun b hb => hn b (List.mem_cons_of_mem _ hb)) h
theorem w_checked (d : Dd) (hd : d.Ok) (Q : D → Zs → Prop) (X : Er → Zs → Prop) (z : Zs) (hq : Q d.D z) : m_checked_deed [d.D] Q X z := by
  by_cases hb : d.bare = true
  · exact w_checked_bare d hd hb Q X z hq
  have hn := w_names d
  rw [me_checked_deed]
  cases d <;> first | (exact absurd rfl hb) | skip
  · rename_i a
    simp [s_checked_deed, Dd.D, dKey_s, dNotInK_s]
    rw [eq_t3 _ a _ (by decide +kernel) (nm_strOk hd)]
    simp
    refine hn _ _ z ?_
    simp
    exact wl_names _ _ _ z [a] _ _ _ (fun b hb => by rw [List.mem_singleton.mp hb]; exact hd) fun t => by simp; exact hq
  · rename_i a
    simp [s_checked_deed, Dd.D, dKey_s, dNotInK_s]
    rw [eq_t3 _ a _ (by decide +kernel) (nm_strOk hd)]
    simp
    refine hn _ _ z ?_
    simp
    exact wl_names _ _ _ z [a] _ _ _ (fun b hb => by rw [List.mem_singleton.mp hb]; exact hd) fun t => by simp; exact hq
  · rename_i a c
    simp [s_checked_deed, Dd.D, dKey_s, dNotInK_s]
    rw [eq_t4 _ a c _ (by decide +kernel) (nm_strOk hd.1) (nm_strOk hd.2)]
    simp
    refine hn _ _ z ?_
    simp
    exact wl_names _ _ _ z [a, c] _ _ _ (fun b hb => by rcases List.mem_cons.mp hb with rfl | hb; exact hd.1; rw [List.mem_singleton.mp hb]; exact hd.2) fun t => by simp; exact hq
end LW

namespace LW
open PySem PySem.Spec PyProof.Rows L2 DL
def ltS (a b : Str) : Bool := decide (a.cps.toList ≤ b.cps.toList)
end LW

namespace LW
open PySem PySem.Spec PyProof.Rows L2 DL
/-! ## ranges of openings, forms, and what a script does over ranges: the program's functions on plain data -/
structure Rg where
  lo : Int × Int
  li : Bool
  hi : Int × Int
  hx : Bool
deriving DecidableEq
def ALL : Rg := ⟨(0, 1), false, (1, 1), true⟩
def ord (x y : Int × Int) : Int := if x.1 * y.2 = y.1 * x.2 then 0 else if x.1 * y.2 < y.1 * x.2 then -1 else 1
def cutR (r : Rg) (p : Int × Int) (b : Bool) : Option Rg × Option Rg :=
  if ord p r.lo < 0 ∨ ord p r.lo = 0 ∧ ¬ (r.li = true ∧ b = true) then (none, some r)
  else if ord p r.hi > 0 ∨ ord p r.hi = 0 ∧ (b = true ∨ ¬ r.hx = true) then (some r, none)
  else (some ⟨r.lo, r.li, p, b⟩, some ⟨p, !b, r.hi, r.hx⟩)
abbrev Fm := Int × Int
def root (f : Fm) : Int × Int := rr (-f.1) f.2
def row1 {α : Type} (o : Option Rg) (a : α) : List (Rg × α) := match o with
  | none => []
  | some r => [(r, a)]
def atL (r : Rg) (f : Fm) : List (Rg × Bool) := if f.2 = 0 then [(r, decide (0 ≤ f.1))] else
  row1 (cutR r (root f) (decide (f.2 < 0))).1 (decide (f.2 < 0)) ++ row1 (cutR r (root f) (decide (f.2 < 0))).2 (decide (f.2 > 0))
def rise (f : Fm) : Int := if f.2 > 0 then 1 else -1
def sgL (l : Rg) (p : Int × Int) (k : Int) : List (Rg × Int) := row1 (cutR l p true).1 0 ++ row1 (cutR l p true).2 k
def sgs (r : Rg) (f : Fm) : List (Rg × Int) := if f.2 = 0 then [(r, (if 0 < f.1 then 1 else 0) - (if f.1 < 0 then 1 else 0))] else
  row1 (cutR r (root f) false).1 (-(rise f)) ++ (match (cutR r (root f) false).2 with
    | none => []
    | some l => sgL l (root f) (rise f))
def pls (f g : Fm) (t : Int) : Fm := (f.1 + t * g.1, f.2 + t * g.2)
inductive Why where
  | no | beyond | nothing | unm (a : Str)
deriving DecidableEq
inductive Wd where
  | on | failed | over | done
deriving DecidableEq
structure St where
  cs : List Int
  w : Wd
  ix : Int
  why : Why
  rw : Bool
  spr : Fm
  spt : Fm
  ps : List (Str × Fm)
def st0 : St := ⟨[], .on, 0, .no, true, (0, 1), (0, 0), []⟩
def gapf (s : St) : Fm := if s.rw = true then pls (1, 0) s.spt (-1) else s.spt
def fof (s : St) (a : Str) : Option Fm := s.ps.lookup a
def mvd (s : St) (c : Int) : St := { s with spt := pls s.spt s.spr (if s.rw = true then c else -c) }
def fld (s : St) (y : Why) : St := { s with w := .failed, why := y }
def aSteps (r : Rg) (s : St) (n : Int) : List (Rg × St) := (atL r (pls (gapf s) s.spr (-n))).map fun q => (q.1, if q.2 = true then mvd s n else fld s .beyond)
def filled (s : St) (c : Int) : St := { mvd s c with cs := s.cs ++ [c] }
/-- one turn of a fill: what lies ahead, behind, and where more fit -/
def fillT (s : St) (c : Int) (q : List (Rg × St) × List (Rg × St) × Option Rg) (p : Rg × Bool) : List (Rg × St) × List (Rg × St) × Option Rg :=
  if p.2 = true then (q.1, q.2.1, some p.1) else match q.2.2 with
    | none => (q.1 ++ [(p.1, filled s c)], q.2.1, none)
    | some m => (q.1, q.2.1 ++ [(p.1, filled s c)], some m)
def fillL (s : St) : Nat → Int → Rg → List (Rg × St) → List (Rg × St) → List (Rg × St)
  | 0, c, r, a, b => a ++ [(r, filled s c)] ++ b.reverse
  | n + 1, c, r, a, b => match (atL r (pls (gapf s) s.spr (-(c + 1)))).foldl (fillT s c) (a, b, none) with
    | (a', b', none) => a' ++ b'.reverse
    | (a', b', some m) => fillL s n (c + 1) m a' b'
def aFill (r : Rg) (s : St) (n : Int) : List (Rg × St) := fillL s n.toNat 0 r [] []
def aGap (r : Rg) (s : St) : List (Rg × St) := (sgs r (gapf s)).map fun q => (q.1, if q.2 = 0 then fld s .nothing else { s with spr := gapf s })
def spn (f g : Fm) (k : Int) : Fm := if k = 1 then pls f g (-1) else pls g f (-1)
def aSpan (r : Rg) (s : St) (a c : Str) : List (Rg × St) := match fof s a with
  | none => [(r, fld s (.unm a))]
  | some f => match fof s c with
    | none => [(r, fld s (.unm c))]
    | some g => (sgs r (pls f g (-1))).map fun q => (q.1, if q.2 = 0 then fld s .nothing else { s with spr := spn f g q.2 })
def aRest (r : Rg) (s : St) : List (Rg × St) := (sgs r (gapf s)).map fun q => (q.1, if q.2 = 0 then { s with w := .over } else s)
def insP (ps : List (Str × Fm)) (a : Str) (f : Fm) : List (Str × Fm) := ((ps.filter fun q => decide (q.1 ≠ a)) ++ [(a, f)]).mergeSort fun x y => ltS x.1 y.1
def scr (s : St) (a : Str) : St := { s with ps := insP s.ps a s.spt }
def aDeed (r : Rg) (s : St) : Dd → List (Rg × St)
  | .left => [(r, { s with spt := (0, 0), rw := true })]
  | .right => [(r, { s with spt := (1, 0), rw := false })]
  | .turn => [(r, { s with rw := !s.rw })]
  | .gap => aGap r s
  | .rest => aRest r s
  | .steps n => aSteps r s n
  | .fill n => aFill r s n
  | .mark a => [(r, scr s a)]
  | .go a => [(r, match fof s a with
    | none => fld s (.unm a)
    | some f => { s with spt := f })]
  | .span a c => aSpan r s a c
def ledS (i : Nat) (d : Dd) (l : List (Rg × St)) : List (Rg × St) := l.flatMap fun p => if p.2.w = .on then aDeed p.1 { p.2 with ix := (i : Int) } d else [p]
def ledF : Nat → List Dd → List (Rg × St) → List (Rg × St)
  | _, [], l => l
  | i, d :: ds, l => ledF (i + 1) ds (ledS i d l)
def fin (s : St) : St := { s with w := if s.w = .on then .done else s.w }
def led (ds : List Dd) : List (Rg × St) := (ledF 0 ds [(ALL, st0)]).map fun p => (p.1, fin p.2)
/-- an end, with forms -/
inductive En where
  | bad (i : Int) (y : Why) | ok (over : Bool) (f g : Fm) (ps : List (Str × Fm))
deriving DecidableEq
def endT (s : St) : En := if s.w = .failed then .bad s.ix s.why else .ok (decide (s.w = .over)) s.spr s.spt s.ps
abbrev Rw := Rg × List Int × En
def fuse1 (acc : List Rw) (p : Rw) : List Rw := match acc.getLast? with
  | none => acc ++ [p]
  | some q => if q.2 = p.2 then acc.dropLast ++ [(⟨q.1.lo, q.1.li, p.1.hi, p.1.hx⟩, p.2)] else acc ++ [p]
def fuse (l : List Rw) : List Rw := l.foldl fuse1 []
def rangesL (ds : List Dd) : List Rw := fuse ((led ds).map fun p => (p.1, p.2.cs, endT p.2))
end LW

namespace LW
open PySem PySem.Spec PyProof.Rows L2 DL
/-! ## ranges, forms, states as data -/
def Rg.D (r : Rg) : D := .tup [prD r.lo, .bl r.li, prD r.hi, .bl r.hx]
def oD : Option Rg → D
  | none => .non
  | some r => r.D
def sm (p : Int × Int) : Prop := p.1.natAbs < 2 ^ 60 ∧ p.2.natAbs < 2 ^ 60
def Rg.sm (r : Rg) : Prop := LW.sm r.lo ∧ LW.sm r.hi
def rbD (q : Rg × Bool) : D := .tup [q.1.D, .bl q.2]
def riD (q : Rg × Int) : D := .tup [q.1.D, .int q.2]
def Why.D : Why → D
  | .no => .str ""
  | .beyond => .str "beyond"
  | .nothing => .str "nothing"
  | .unm a => .tup [.str "unmarked", .str a]
def Wd.s : Wd → Str
  | .on => ""
  | .failed => "failed"
  | .over => "over"
  | .done => "done"
def KS : List Key := [.inr "counts", .inr "word", .inr "index", .inr "why", .inr "rightward", .inr "spread", .inr "spot", .inr "pairs"]
def prM (q : Str × Fm) : D := .tup [.str q.1, prD q.2]
def St.L (s : St) : List D := [.lst (s.cs.map .int), .str s.w.s, .int s.ix, s.why.D, .bl s.rw, prD s.spr, prD s.spt, .lst (s.ps.map prM)]
def St.D (s : St) : D := .dic KS s.L
def rsD (q : Rg × St) : D := .tup [q.1.D, q.2.D]
/-- a state's forms are small -/
structure St.Sm (s : St) (m : Nat) : Prop where
  a : s.spr.1.natAbs ≤ m ∧ s.spr.2.natAbs ≤ m
  b : s.spt.1.natAbs ≤ m ∧ s.spt.2.natAbs ≤ m
  c : ∀ q ∈ s.ps, q.2.1.natAbs ≤ m ∧ q.2.2.natAbs ≤ m
  m1 : 1 ≤ m
theorem ord_cases (x y : Int × Int) : ord x y = 0 ∨ ord x y = -1 ∨ ord x y = 1 := by
  unfold ord; (repeat' split) <;> simp
theorem w_fraction_order (x y : Int × Int) (hx : sm x) (hy : sm y) (Q : D → Zs → Prop) (X : Er → Zs → Prop) (z : Zs) (hq : Q (.int (ord x y)) z) : m_fraction_order [prD x, prD y] Q X z := by
  rw [me_fraction_order]
  simp [s_fraction_order, prD]
  have h1 := hx.2
  have h2 := hy.2
  refine ⟨.inr (.inl (by omega)), .inr (.inl (by omega)), ?_⟩
  unfold ord at hq
  refine ⟨fun e => by rwa [if_pos e] at hq, fun e => ⟨fun l => by rwa [if_neg e, if_pos l] at hq, fun l => by rwa [if_neg e, if_neg (by omega)] at hq⟩⟩
end LW

namespace LW
open PySem PySem.Spec PyProof.Rows L2 DL
theorem w_cut_at (r : Rg) (hr : r.sm) (p : Int × Int) (hp : sm p) (b : Bool) (Q : D → Zs → Prop) (X : Er → Zs → Prop) (z : Zs) (hq : Q (.tup [oD (cutR r p b).1, oD (cutR r p b).2]) z) : m_cut_at [r.D, prD p, .bl b] Q X z := by
  rw [me_cut_at]
  simp [s_cut_at, Rg.D]
  refine w_fraction_order p r.lo hp hr.1 _ _ z ?_
  refine w_fraction_order p r.hi hp hr.2 _ _ z ?_
  unfold cutR at hq
  have c1 := ord_cases p r.lo
  have c2 := ord_cases p r.hi
  generalize ord p r.lo = i at hq c1 ⊢
  generalize ord p r.hi = j at hq c2 ⊢
  cases b <;> cases h1 : r.li <;> cases h2 : r.hx <;> rcases c1 with rfl | rfl | rfl <;> rcases c2 with rfl | rfl | rfl <;> simpa [oD, Rg.D, h1, h2] using hq
theorem w_form_root (f : Fm) (h0 : f.2 ≠ 0) (hf : sm f) (Q : D → Zs → Prop) (X : Er → Zs → Prop) (z : Zs) (hq : Q (prD (root f)) z) : m_form_root [prD f] Q X z := by
  rw [me_form_root]
  simp [s_form_root, prD]
  refine w_fraction (-f.1) f.2 _ _ z (by have := hf.2; omega) (fun e => absurd e h0) fun _ => ?_
  exact hq
theorem fdiv_le {u g : Int} (hg : g ≠ 0) (hd : g ∣ u) : (u.fdiv g).natAbs ≤ u.natAbs := by
  obtain ⟨k, rfl⟩ := hd
  rw [Int.mul_comm, Int.mul_fdiv_cancel k hg, Int.natAbs_mul]
  exact Nat.le_mul_of_pos_right _ (by omega)
theorem rr_sm {u v : Int} (hv : v ≠ 0) (hu : u.natAbs < 2 ^ 60) (hv2 : v.natAbs < 2 ^ 60) : sm (rr u v) := by
  have g0 := (shr_ok (a := u) hv (by omega)).1
  have d1 : shr u v ∣ u := by unfold shr; split; exact Int.neg_dvd.mpr (Int.gcd_dvd_left ..); exact Int.gcd_dvd_left ..
  have d2 : shr u v ∣ v := by unfold shr; split; exact Int.neg_dvd.mpr (Int.gcd_dvd_right ..); exact Int.gcd_dvd_right ..
  have := fdiv_le g0 d1
  have := fdiv_le g0 d2
  unfold rr LW.sm
  constructor <;> simp only <;> omega
theorem root_sm {f : Fm} (h0 : f.2 ≠ 0) (hf : sm f) : sm (root f) := rr_sm h0 (by have := hf.1; simpa using this) hf.2
theorem cutR_sm {r : Rg} (hr : r.sm) {p : Int × Int} (hp : sm p) (b : Bool) : (∀ l ∈ (cutR r p b).1, l.sm) ∧ ∀ l ∈ (cutR r p b).2, l.sm := by
  unfold cutR
  split
  · exact ⟨fun l h => (nomatch h), fun l h => (by cases h; exact hr)⟩
  · split
    · exact ⟨fun l h => (by cases h; exact hr), fun l h => (nomatch h)⟩
    · exact ⟨fun l h => (by cases h; exact ⟨hr.1, hp⟩), fun l h => (by cases h; exact ⟨hp, hr.2⟩)⟩
theorem w_form_plus (f g : Fm) (t : Int) (ht : t.natAbs < 2 ^ 60) (Q : D → Zs → Prop) (X : Er → Zs → Prop) (z : Zs) (hq : Q (prD (pls f g t)) z) : m_form_plus [prD f, prD g, .int t] Q X z := by
  rw [me_form_plus]
  simp [s_form_plus, prD]
  exact ⟨.inl (by omega), .inl (by omega), hq⟩
/-- a range that may be none, with what stands beside it -/
def obD (q : Option Rg × D) : D := .tup [oD q.1, q.2]
theorem w_at_least_parts (r : Rg) (hr : r.sm) (f : Fm) (hf : sm f) (Q : List D → Zs → Prop) (X : Er → Zs → Prop) (z : Zs) (hq : Q ((atL r f).map rbD) z) : m_at_least_parts [r.D, prD f] Q X z := by
  rw [me_at_least_parts]
  simp [s_at_least_parts, prD]
  unfold atL at hq
  refine ⟨fun e => by simpa [e, rbD] using hq, fun e => ?_⟩
  rw [if_neg e] at hq
  refine w_form_root f e hf _ _ z ?_
  refine w_cut_at r hr _ (root_sm e hf) _ _ _ z ?_
  simp
  simp only [wipeR, List.set_cons_zero, List.set_cons_succ]
  generalize (cutR r (root f) (decide (f.snd < 0))).fst = o1 at hq ⊢
  generalize (cutR r (root f) (decide (f.snd < 0))).snd = o2 at hq ⊢
  refine lc_filt 7 _ obD obD (fun x => x.1.isSome) (fun d => rfl) _ _ z [(o1, .bl (decide (f.snd < 0))), (o2, .bl (decide (0 < f.snd)))] [] _ _ (fun x hx Q' h => ?_) (fun x hx Q' h => ?_) (by simp) ?_
  · rw [p1_at_least_parts]
    obtain ⟨o, d⟩ := x
    cases o <;> simpa [obD, oD, Rg.D] using h
  · rw [p0_at_least_parts]
    simpa using h
  · cases o1 <;> cases o2 <;> simpa [row1, rbD, obD, oD] using hq
theorem atL_sm {r : Rg} (hr : r.sm) {f : Fm} (hf : sm f) : ∀ q ∈ atL r f, q.1.sm := by
  unfold atL
  split
  · intro q hq; rw [List.mem_singleton.mp hq]; exact hr
  · rename_i e
    have h := cutR_sm hr (root_sm e hf) (decide (f.2 < 0))
    intro q hq
    rcases List.mem_append.mp hq with hq | hq
    · cases e1 : (cutR r (root f) (decide (f.2 < 0))).1 with
      | none => rw [e1] at hq; cases hq
      | some l => rw [e1] at hq; rw [List.mem_singleton.mp hq]; exact h.1 l e1
    · cases e1 : (cutR r (root f) (decide (f.2 < 0))).2 with
      | none => rw [e1] at hq; cases hq
      | some l => rw [e1] at hq; rw [List.mem_singleton.mp hq]; exact h.2 l e1
theorem row1_sm {α : Type} {o : Option Rg} {a : α} (h : ∀ l ∈ o, l.sm) : ∀ q ∈ row1 o a, q.1.sm := by
  cases o with
  | none => intro q hq; cases hq
  | some l => intro q hq; rw [List.mem_singleton.mp hq]; exact h l rfl
theorem sgs_sm {r : Rg} (hr : r.sm) {f : Fm} (hf : sm f) : ∀ q ∈ sgs r f, q.1.sm := by
  unfold sgs
  split
  · intro q hq; rw [List.mem_singleton.mp hq]; exact hr
  · rename_i e
    have h := cutR_sm hr (root_sm e hf) false
    intro q hq
    rcases List.mem_append.mp hq with hq | hq
    · exact row1_sm h.1 q hq
    · cases e1 : (cutR r (root f) false).2 with
      | none => rw [e1] at hq; cases hq
      | some l =>
        rw [e1] at hq
        have h2 := cutR_sm (h.2 l e1) (root_sm e hf) true
        rcases List.mem_append.mp hq with hq | hq
        · exact row1_sm h2.1 q hq
        · exact row1_sm h2.2 q hq
end LW

namespace LW
open PySem PySem.Spec PyProof.Rows L2 DL
@[simp] theorem dNotN_r (r : Rg) (Q : D → Prop) : dNotN r.D .non Q = Q (.bl true) := by unfold Rg.D; simp
theorem w_sign_parts (r : Rg) (hr : r.sm) (f : Fm) (hf : sm f) (Q : List D → Zs → Prop) (X : Er → Zs → Prop) (z : Zs) (hq : Q ((sgs r f).map riD) z) : m_sign_parts [r.D, prD f] Q X z := by
  rw [me_sign_parts]
  simp [s_sign_parts, prD]
  unfold sgs at hq
  refine ⟨fun e => ?_, fun e => ?_⟩
  · rw [if_pos e] at hq
    by_cases h1 : 0 < f.1 <;> by_cases h2 : f.1 < 0 <;> simpa [h1, h2, riD] using hq
  rw [if_neg e] at hq
  refine w_form_root f e hf _ _ z ?_
  have hc := cutR_sm hr (root_sm e hf) false
  refine ⟨fun p => ?_, fun p => ?_⟩
  · have er : rise f = 1 := by unfold rise; rw [if_pos p]
    rw [er] at hq
    refine w_cut_at r hr _ (root_sm e hf) _ _ _ z ?_
    simp
    generalize (cutR r (root f) false).fst = o1 at hq hc ⊢
    cases e2 : (cutR r (root f) false).snd with
    | none =>
      rw [e2] at hq
      simp [oD]
      simp only [wipeR, List.set_cons_zero, List.set_cons_succ]
      refine lc_filt 11 _ obD obD (fun x => x.1.isSome) (fun d => rfl) _ _ z [(o1, .int (-1))] [] _ _ (fun x hx Q' h => ?_) (fun x hx Q' h => ?_) (by simp) ?_
      · rw [p1_sign_parts]
        obtain ⟨o, d⟩ := x
        cases o <;> simpa [obD, oD, Rg.D] using h
      · rw [p0_sign_parts]
        simpa using h
      · cases o1 <;> simpa [row1, riD, obD, oD] using hq
    | some l =>
      rw [e2] at hq hc
      simp [oD, dNotN_r]
      refine w_cut_at l (hc.2 l rfl) _ (root_sm e hf) _ _ _ z ?_
      simp
      simp only [wipeR, List.set_cons_zero, List.set_cons_succ]
      replace hq : Q ((row1 o1 (-(1)) ++ (row1 (cutR l (root f) true).fst 0 ++ row1 (cutR l (root f) true).snd (1))).map riD) z := hq
      generalize (cutR l (root f) true).fst = o2 at hq ⊢
      generalize (cutR l (root f) true).snd = o3 at hq ⊢
      refine lc_filt 11 _ obD obD (fun x => x.1.isSome) (fun d => rfl) _ _ z [(o1, .int (-1)), (o2, .int 0), (o3, .int 1)] [] _ _ (fun x hx Q' h => ?_) (fun x hx Q' h => ?_) (by simp) ?_
      · rw [p1_sign_parts]
        obtain ⟨o, d⟩ := x
        cases o <;> simpa [obD, oD, Rg.D] using h
      · rw [p0_sign_parts]
        simpa using h
      · cases o1 <;> cases o2 <;> cases o3 <;> simpa [row1, riD, obD, oD] using hq
  · have er : rise f = -1 := by unfold rise; rw [if_neg (by omega)]
    rw [er] at hq
    refine w_cut_at r hr _ (root_sm e hf) _ _ _ z ?_
    simp
    generalize (cutR r (root f) false).fst = o1 at hq hc ⊢
    cases e2 : (cutR r (root f) false).snd with
    | none =>
      rw [e2] at hq
      simp [oD]
      simp only [wipeR, List.set_cons_zero, List.set_cons_succ]
      refine lc_filt 11 _ obD obD (fun x => x.1.isSome) (fun d => rfl) _ _ z [(o1, .int 1)] [] _ _ (fun x hx Q' h => ?_) (fun x hx Q' h => ?_) (by simp) ?_
      · rw [p1_sign_parts]
        obtain ⟨o, d⟩ := x
        cases o <;> simpa [obD, oD, Rg.D] using h
      · rw [p0_sign_parts]
        simpa using h
      · cases o1 <;> simpa [row1, riD, obD, oD] using hq
    | some l =>
      rw [e2] at hq hc
      simp [oD, dNotN_r]
      refine w_cut_at l (hc.2 l rfl) _ (root_sm e hf) _ _ _ z ?_
      simp
      simp only [wipeR, List.set_cons_zero, List.set_cons_succ]
      replace hq : Q ((row1 o1 (-(-1)) ++ (row1 (cutR l (root f) true).fst 0 ++ row1 (cutR l (root f) true).snd (-1))).map riD) z := hq
      generalize (cutR l (root f) true).fst = o2 at hq ⊢
      generalize (cutR l (root f) true).snd = o3 at hq ⊢
      refine lc_filt 11 _ obD obD (fun x => x.1.isSome) (fun d => rfl) _ _ z [(o1, .int 1), (o2, .int 0), (o3, .int (-1))] [] _ _ (fun x hx Q' h => ?_) (fun x hx Q' h => ?_) (by simp) ?_
      · rw [p1_sign_parts]
        obtain ⟨o, d⟩ := x
        cases o <;> simpa [obD, oD, Rg.D] using h
      · rw [p0_sign_parts]
        simpa using h
      · cases o1 <;> cases o2 <;> cases o3 <;> simpa [row1, riD, obD, oD] using hq
end LW

namespace LW
open PySem PySem.Spec PyProof.Rows L2 DL
/-! ## states -/
def Dd.nu : Dd → Nat
  | .steps n => n.natAbs
  | .fill n => n.natAbs
  | _ => 0
@[simp] theorem g_counts (s : St) : dlk KS s.L (.inr "counts") = some (.lst (s.cs.map .int)) := rfl
@[simp] theorem g_word (s : St) : dlk KS s.L (.inr "word") = some (.str s.w.s) := rfl
@[simp] theorem g_index (s : St) : dlk KS s.L (.inr "index") = some (.int s.ix) := rfl
@[simp] theorem g_why (s : St) : dlk KS s.L (.inr "why") = some s.why.D := rfl
@[simp] theorem g_right (s : St) : dlk KS s.L (.inr "rightward") = some (.bl s.rw) := rfl
@[simp] theorem g_spread (s : St) : dlk KS s.L (.inr "spread") = some (prD s.spr) := rfl
@[simp] theorem g_spot (s : St) : dlk KS s.L (.inr "spot") = some (prD s.spt) := rfl
@[simp] theorem g_pairs (s : St) : dlk KS s.L (.inr "pairs") = some (.lst (s.ps.map prM)) := rfl
@[simp] theorem KS_len : KS.length = 8 := rfl
theorem St.D_eq (s : St) : s.D = .dic KS s.L := rfl
@[simp] theorem u_spot (s : St) (f : Fm) : dputs KS s.L (skeys ["spot"]) [prD f] = (KS, ({ s with spt := f } : St).L) := rfl
@[simp] theorem u_spread (s : St) (f : Fm) : dputs KS s.L (skeys ["spread"]) [prD f] = (KS, ({ s with spr := f } : St).L) := rfl
@[simp] theorem u_index (s : St) (i : Int) : dputs KS s.L (skeys ["index"]) [.int i] = (KS, ({ s with ix := i } : St).L) := rfl
@[simp] theorem u_right (s : St) (b : Bool) : dputs KS s.L (skeys ["rightward"]) [.bl b] = (KS, ({ s with rw := b } : St).L) := rfl
theorem u_pairs (s : St) (ps : List (Str × Fm)) : dputs KS s.L (skeys ["pairs"]) [.lst (ps.map prM)] = (KS, ({ s with ps := ps } : St).L) := rfl
theorem u_counts (s : St) (cs : List Int) : dputs KS s.L (skeys ["counts"]) [.lst (cs.map .int)] = (KS, ({ s with cs := cs } : St).L) := rfl
theorem u_word (s : St) (w : Wd) (y : Str) (h : w.s = y) : dputs KS s.L (skeys ["word"]) [.str y] = (KS, ({ s with w := w } : St).L) := by subst h; rfl
theorem u_ww (s : St) (y : Why) : dputs KS s.L (skeys ["word", "why"]) [.str "failed", y.D] = (KS, (fld s y).L) := rfl
theorem u_sr0 (s : St) (i : Int) (b : Bool) : dputs KS s.L (skeys ["spot", "rightward"]) [.tup [.int i, .int 0], .bl b] = (KS, ({ s with spt := (i, 0), rw := b } : St).L) := rfl
theorem w_first_state (Q : D → Zs → Prop) (X : Er → Zs → Prop) (z : Zs) (hq : Q st0.D z) : m_first_state [] Q X z := by
  rw [me_first_state]
  simp [s_first_state]
  exact ⟨by decide, hq⟩
theorem w_gap_form (s : St) (Q : D → Zs → Prop) (X : Er → Zs → Prop) (z : Zs) (hq : Q (prD (gapf s)) z) : m_gap_form [s.D] Q X z := by
  rw [me_gap_form]
  simp [s_gap_form, St.D_eq]
  unfold gapf at hq
  refine ⟨fun e => ?_, fun e => ?_⟩
  · rw [if_pos e] at hq
    exact w_form_plus (1, 0) s.spt (-1) (by decide) _ _ z hq
  · rw [if_neg (by simp [e])] at hq
    exact hq
theorem w_lead_moved (s : St) (n : Int) (hn : n.natAbs < 2 ^ 60) (Q : D → Zs → Prop) (X : Er → Zs → Prop) (z : Zs) (hq : Q (mvd s n).D z) : m_lead_moved [s.D, .int n] Q X z := by
  rw [me_lead_moved]
  simp [s_lead_moved, St.D_eq]
  unfold mvd at hq
  refine ⟨fun e => ?_, fun e => ?_⟩
  · rw [if_pos e] at hq
    refine w_form_plus s.spt s.spr n hn _ _ z ?_
    simpa [St.D_eq] using hq
  · rw [if_neg (by simp [e])] at hq
    refine w_form_plus s.spt s.spr (-n) (by omega) _ _ z ?_
    simpa [St.D_eq] using hq
theorem w_lead_failed (s : St) (y : Why) (Q : D → Zs → Prop) (X : Er → Zs → Prop) (z : Zs) (hq : Q (fld s y).D z) : m_lead_failed [s.D, y.D] Q X z := by
  rw [me_lead_failed]
  simp [s_lead_failed, St.D_eq, u_ww]
  exact hq
theorem w_lead_filled (s : St) (n : Int) (hn : n.natAbs < 2 ^ 60) (hl : s.cs.length < 1000) (Q : D → Zs → Prop) (X : Er → Zs → Prop) (z : Zs) (hq : Q (filled s n).D z) : m_lead_filled [s.D, .int n] Q X z := by
  rw [me_lead_filled]
  simp [s_lead_filled]
  refine w_lead_moved s n hn _ _ z ?_
  simp [St.D_eq]
  refine ⟨by omega, ?_⟩
  have e : (s.cs.map D.int) ++ [D.int n] = (s.cs ++ [n]).map .int := by simp
  rw [e, u_counts]
  exact hq
theorem wl_form_of (a : Str) (sd : D) : ∀ (ps : List (Str × Fm)) (t1 t2 : Sl) (Q : Fl → Rho → Zs → Prop) (X : Er → Rho → Zs → Prop) (z : Zs),
    (∀ f, ps.lookup a = some f → ∀ ρ, Q (.ret (prD f)) ρ z) → (ps.lookup a = none → ∀ t1 t2, Q .nx [Sl.fr sd, Sl.fr (.str a), t1, t2] z) →
    forL (gTp 2 (gCn (gN 2) (gCn (gN 3) gNl))) p0_form_of (ps.map prM) [Sl.fr sd, Sl.fr (.str a), t1, t2] Q X z := by
  intro ps
  induction ps with
  | nil => intro t1 t2 Q X z _ h; simpa using h rfl t1 t2
  | cons p r ih =>
    intro t1 t2 Q X z h1 h2
    simp only [List.map_cons, forL_cons]
    simp [prM]
    rw [p0_form_of]
    simp
    refine ⟨fun e => h1 p.2 (by subst e; simp [List.lookup]) _, fun e => ?_⟩
    have e1 : List.lookup a (p :: r) = List.lookup a r := by
      have : (a == p.1) = false := by simpa using fun q => e q.symm
      simp [List.lookup, this]
    rw [e1] at h1 h2
    exact ih _ _ Q X z h1 h2
def foD : Option Fm → D
  | none => .non
  | some f => prD f
theorem w_form_of (s : St) (a : Str) (Q : D → Zs → Prop) (X : Er → Zs → Prop) (z : Zs) (hq : Q (foD (fof s a)) z) : m_form_of [s.D, .str a] Q X z := by
  rw [me_form_of]
  simp [s_form_of, St.D_eq]
  unfold fof at hq
  refine wl_form_of a _ s.ps _ _ _ _ z (fun f e ρ => ?_) fun e t1 t2 => ?_
  · rw [e] at hq
    simpa [foD] using hq
  · rw [e] at hq
    simpa [foD] using hq
@[simp] theorem dGet_D (s : St) (k : Str) (Q : D → Prop) : dGet s.D (.str k) Q = ∃ d, dlk KS s.L (.inr k) = some d ∧ Q d := dGet_s ..
@[simp] theorem fSpr_D (s : St) (ks : List Str) (ms : E (List D)) (ρ : Rho) (Q : D → Rho → Zs → Prop) (X : Er → Rho → Zs → Prop) (z : Zs) : fSpr ks ms s.D ρ Q X z = (KS.length ≤ 100 ∧ ms ρ (fun ds ρ' z' => Q (.dic (dputs KS s.L (skeys ks) ds).1 (dputs KS s.L (skeys ks) ds).2) ρ' z') X z) := fSpr_a ..
/-! bounds -/
structure St.Ok (s : St) (m k : Nat) : Prop where
  a : s.spr.1.natAbs ≤ m ∧ s.spr.2.natAbs ≤ m
  b : s.spt.1.natAbs ≤ m ∧ s.spt.2.natAbs ≤ m
  c : ∀ q ∈ s.ps, q.2.1.natAbs ≤ m ∧ q.2.2.natAbs ≤ m
  m1 : 1 ≤ m
  nd : (s.ps.map (·.1)).Nodup
  l1 : s.cs.length ≤ k
  l2 : s.ps.length ≤ k
  nm : ∀ q ∈ s.ps, PyData.strOk q.1 = true
  wy : ∀ a, s.why = .unm a → PyData.strOk a = true
abbrev Fm.B (f : Fm) (m : Nat) : Prop := f.1.natAbs ≤ m ∧ f.2.natAbs ≤ m
theorem pls_B {f g : Fm} {t : Int} {m n c d : Nat} (hf : Fm.B f m) (hg : Fm.B g n) (ht : t.natAbs ≤ c) (h : m + c * n ≤ d) : Fm.B (pls f g t) d := by
  have k : ∀ x : Int, x.natAbs ≤ n → (t * x).natAbs ≤ c * n := fun x hx => by rw [Int.natAbs_mul]; exact Nat.mul_le_mul ht hx
  have k1 := k _ hg.1
  have k2 := k _ hg.2
  have := hf.1
  have := hf.2
  unfold pls Fm.B
  constructor <;> simp only <;> omega
theorem Fm.B.mono {f : Fm} {m n : Nat} (h : Fm.B f m) (k : m ≤ n) : Fm.B f n := ⟨by have := h.1; omega, by have := h.2; omega⟩
theorem Fm.B.sm {f : Fm} {m : Nat} (h : Fm.B f m) (k : m < 2 ^ 60) : LW.sm f := ⟨by have := h.1; omega, by have := h.2; omega⟩
theorem gapf_B {s : St} {m k : Nat} (h : s.Ok m k) : Fm.B (gapf s) (1 + m) := by
  unfold gapf
  split
  · exact pls_B (m := 1) (n := m) (c := 1) ⟨by decide, by decide⟩ h.b (by decide) (by omega)
  · exact Fm.B.mono h.b (by omega)
theorem St.Ok.mono {s : St} {m k m' k' : Nat} (h : s.Ok m k) (hm : m ≤ m') (hk : k ≤ k') : s.Ok m' k' := ⟨Fm.B.mono h.a hm, Fm.B.mono h.b hm, fun q hq => Fm.B.mono (h.c q hq) hm, by have := h.m1; omega, h.nd, by have := h.l1; omega, by have := h.l2; omega, h.nm, h.wy⟩
theorem mvd_ok {s : St} {m k K : Nat} {n : Int} (h : s.Ok m k) (hn : n.natAbs + 2 ≤ K) : (mvd s n).Ok (K * m) k := by
  have e : m ≤ K * m := Nat.le_mul_of_pos_left _ (by omega)
  have e2 : m + n.natAbs * m ≤ K * m := by
    have := Nat.mul_le_mul_right m (by omega : n.natAbs + 1 ≤ K)
    rw [Nat.add_mul] at this; omega
  refine ⟨Fm.B.mono h.a e, ?_, fun q hq => Fm.B.mono (h.c q hq) e, by have := h.m1; omega, h.nd, h.l1, h.l2, h.nm, h.wy⟩
  refine pls_B (c := n.natAbs) h.b h.a ?_ e2
  split <;> omega
theorem fld_ok {s : St} {m k : Nat} (h : s.Ok m k) (y : Why) (hy : ∀ a, y = .unm a → PyData.strOk a = true) : (fld s y).Ok m k := ⟨h.a, h.b, h.c, h.m1, h.nd, h.l1, h.l2, h.nm, hy⟩
theorem filled_ok {s : St} {m k K : Nat} {n : Int} (h : s.Ok m k) (hn : n.natAbs + 2 ≤ K) : (filled s n).Ok (K * m) (k + 1) := by
  have g := mvd_ok h hn
  exact ⟨g.a, g.b, g.c, g.m1, h.nd, by have := h.l1; simp [filled]; omega, by have := h.l2; simp [filled, mvd]; omega, h.nm, h.wy⟩
end LW

namespace LW
open PySem PySem.Spec PyProof.Rows L2 DL
/-! ## one deed on one range -/
theorem wl_steps (s : St) (n : Int) (hn : n.natAbs < 2 ^ 60) (r0 d3 : D) : ∀ (xs : List (Rg × Bool)) (acc : List (Rg × St)) (t1 t2 : Sl) (Q : Fl → Rho → Zs → Prop) (X : Er → Rho → Zs → Prop) (z : Zs), acc.length + xs.length < 16777216 →
    (∀ t1 t2, Q .nx [Sl.fr r0, Sl.fr s.D, Sl.fr (.int n), Sl.fr d3, Sl.own ((acc ++ xs.map fun q => (q.1, if q.2 = true then mvd s n else fld s .beyond)).map rsD), t1, t2] z) →
    forL (gTp 2 (gCn (gN 5) (gCn (gN 6) gNl))) p0_after_steps (xs.map rbD) [Sl.fr r0, Sl.fr s.D, Sl.fr (.int n), Sl.fr d3, Sl.own (acc.map rsD), t1, t2] Q X z := by
  intro xs
  induction xs with
  | nil => intro acc t1 t2 Q X z _ h; simpa using h t1 t2
  | cons x r ih =>
    intro acc t1 t2 Q X z hl h
    simp only [List.length_cons] at hl
    have go : ∀ (v : St) t1 t2, v = (if x.2 = true then mvd s n else fld s .beyond) → forL (gTp 2 (gCn (gN 5) (gCn (gN 6) gNl))) p0_after_steps (r.map rbD) [Sl.fr r0, Sl.fr s.D, Sl.fr (.int n), Sl.fr d3, Sl.own (acc.map rsD ++ [.tup [x.1.D, v.D]]), t1, t2] Q X z := fun v t1 t2 ev => by
      have e : acc.map rsD ++ [D.tup [x.1.D, v.D]] = (acc ++ [(x.1, v)]).map rsD := by simp [rsD]
      rw [e]
      refine ih _ _ _ Q X z (by simp; omega) fun t1 t2 => ?_
      have := h t1 t2
      rw [List.map_cons, ← ev] at this
      simpa using this
    simp only [List.map_cons, forL_cons]
    simp [rbD]
    rw [p0_after_steps]
    simp
    refine ⟨fun e => ?_, fun e => ?_⟩
    · exact w_lead_moved s n hn _ _ z ⟨by omega, go _ _ _ (by rw [if_pos e])⟩
    · exact w_lead_failed s .beyond _ _ z ⟨by omega, go _ _ _ (by rw [if_neg (by simp [e])])⟩
theorem atL_len (r : Rg) (f : Fm) : (atL r f).length ≤ 2 := by
  unfold atL
  split
  · simp
  · rw [List.length_append]
    have k : ∀ (o : Option Rg) (b : Bool), (row1 o b).length ≤ 1 := fun o b => by cases o <;> simp [row1]
    have := k (cutR r (root f) (decide (f.2 < 0))).1 (decide (f.2 < 0))
    have := k (cutR r (root f) (decide (f.2 < 0))).2 (decide (f.2 > 0))
    omega
theorem sgs_len (r : Rg) (f : Fm) : (sgs r f).length ≤ 3 := by
  have k : ∀ (o : Option Rg) (b : Int), (row1 o b).length ≤ 1 := fun o b => by cases o <;> simp [row1]
  unfold sgs
  split
  · simp
  · rw [List.length_append]
    have := k (cutR r (root f) false).1 (-(rise f))
    split
    · simp; omega
    · rename_i l _
      unfold sgL
      rw [List.length_append]
      have := k (cutR l (root f) true).1 0
      have := k (cutR l (root f) true).2 (rise f)
      omega
theorem stepF_B {s : St} {m k K : Nat} {n : Int} (h : s.Ok m k) (hn : n.natAbs + 2 ≤ K) : Fm.B (pls (gapf s) s.spr (-n)) (K * m) := by
  have := h.m1
  have e2 : 1 + m + n.natAbs * m ≤ K * m := by
    have := Nat.mul_le_mul_right m hn
    rw [Nat.add_mul] at this; omega
  exact pls_B (gapf_B h) h.a (by omega) e2
theorem w_after_steps (r : Rg) (hr : r.sm) (s : St) {m k K : Nat} (h : s.Ok m k) (n : Int) (hn : n.natAbs + 2 ≤ K) (hK : K * m < 2 ^ 60) (hn9 : n.natAbs < 1000) (Q : List D → Zs → Prop) (X : Er → Zs → Prop) (z : Zs) (hq : Q ((aSteps r s n).map rsD) z) : m_after_steps [r.D, s.D, .int n] Q X z := by
  rw [me_after_steps]
  simp [s_after_steps]
  refine w_gap_form s _ _ z ?_
  refine w_form_plus (gapf s) s.spr (-n) (by omega) _ _ z ?_
  refine w_at_least_parts r hr _ (Fm.B.sm (stepF_B h hn) hK) _ _ z ?_
  have := atL_len r (pls (gapf s) s.spr (-n))
  refine wl_steps s n (by omega) _ _ _ [] _ _ _ _ z (by simp; omega) fun t1 t2 => ?_
  simpa [aSteps] using hq
end LW

namespace LW
open PySem PySem.Spec PyProof.Rows L2 DL
theorem wl_gap (s : St) (r0 : D) (g : Fm) : ∀ (xs : List (Rg × Int)) (acc : List (Rg × St)) (t1 t2 : Sl) (Q : Fl → Rho → Zs → Prop) (X : Er → Rho → Zs → Prop) (z : Zs), acc.length + xs.length < 16777216 →
    (∀ t1 t2, Q .nx [Sl.fr r0, Sl.fr s.D, Sl.fr (prD g), Sl.own ((acc ++ xs.map fun q => (q.1, if q.2 = 0 then fld s .nothing else { s with spr := g })).map rsD), t1, t2] z) →
    forL (gTp 2 (gCn (gN 4) (gCn (gN 5) gNl))) p0_after_gap (xs.map riD) [Sl.fr r0, Sl.fr s.D, Sl.fr (prD g), Sl.own (acc.map rsD), t1, t2] Q X z := by
  intro xs
  induction xs with
  | nil => intro acc t1 t2 Q X z _ h; simpa using h t1 t2
  | cons x r ih =>
    intro acc t1 t2 Q X z hl h
    simp only [List.length_cons] at hl
    have go : ∀ (v : St) t1 t2, v = (if x.2 = 0 then fld s .nothing else { s with spr := g }) → forL (gTp 2 (gCn (gN 4) (gCn (gN 5) gNl))) p0_after_gap (r.map riD) [Sl.fr r0, Sl.fr s.D, Sl.fr (prD g), Sl.own (acc.map rsD ++ [.tup [x.1.D, v.D]]), t1, t2] Q X z := fun v t1 t2 ev => by
      have e : acc.map rsD ++ [D.tup [x.1.D, v.D]] = (acc ++ [(x.1, v)]).map rsD := by simp [rsD]
      rw [e]
      refine ih _ _ _ Q X z (by simp; omega) fun t1 t2 => ?_
      have := h t1 t2
      rw [List.map_cons, ← ev] at this
      simpa using this
    simp only [List.map_cons, forL_cons]
    simp [riD]
    rw [p0_after_gap]
    simp
    refine ⟨fun e => ?_, fun e => ?_⟩
    · exact w_lead_failed s .nothing _ _ z ⟨by omega, go _ _ _ (by rw [if_pos e])⟩
    · exact ⟨by omega, go { s with spr := g } _ _ (by rw [if_neg (by simp [e])])⟩
theorem w_after_gap (r : Rg) (hr : r.sm) (s : St) {m k : Nat} (h : s.Ok m k) (hK : 1 + m < 2 ^ 60) (Q : List D → Zs → Prop) (X : Er → Zs → Prop) (z : Zs) (hq : Q ((aGap r s).map rsD) z) : m_after_gap [r.D, s.D] Q X z := by
  rw [me_after_gap]
  simp [s_after_gap]
  refine w_gap_form s _ _ z ?_
  refine w_sign_parts r hr _ (Fm.B.sm (gapf_B h) hK) _ _ z ?_
  have := sgs_len r (gapf s)
  refine wl_gap s _ _ _ [] _ _ _ _ z (by simp; omega) fun t1 t2 => ?_
  simpa [aGap] using hq
theorem wl_rest (s : St) (r0 : D) : ∀ (xs : List (Rg × Int)) (acc : List (Rg × St)) (t1 t2 : Sl) (Q : Fl → Rho → Zs → Prop) (X : Er → Rho → Zs → Prop) (z : Zs), acc.length + xs.length < 16777216 →
    (∀ t1 t2, Q .nx [Sl.fr r0, Sl.fr s.D, Sl.own ((acc ++ xs.map fun q => (q.1, if q.2 = 0 then { s with w := .over } else s)).map rsD), t1, t2] z) →
    forL (gTp 2 (gCn (gN 3) (gCn (gN 4) gNl))) p0_after_rest (xs.map riD) [Sl.fr r0, Sl.fr s.D, Sl.own (acc.map rsD), t1, t2] Q X z := by
  intro xs
  induction xs with
  | nil => intro acc t1 t2 Q X z _ h; simpa using h t1 t2
  | cons x r ih =>
    intro acc t1 t2 Q X z hl h
    simp only [List.length_cons] at hl
    have go : ∀ (v : St) t1 t2, v = (if x.2 = 0 then { s with w := .over } else s) → forL (gTp 2 (gCn (gN 3) (gCn (gN 4) gNl))) p0_after_rest (r.map riD) [Sl.fr r0, Sl.fr s.D, Sl.own (acc.map rsD ++ [.tup [x.1.D, v.D]]), t1, t2] Q X z := fun v t1 t2 ev => by
      have e : acc.map rsD ++ [D.tup [x.1.D, v.D]] = (acc ++ [(x.1, v)]).map rsD := by simp [rsD]
      rw [e]
      refine ih _ _ _ Q X z (by simp; omega) fun t1 t2 => ?_
      have := h t1 t2
      rw [List.map_cons, ← ev] at this
      simpa using this
    simp only [List.map_cons, forL_cons]
    simp [riD]
    rw [p0_after_rest]
    simp [u_word _ Wd.over "over" rfl]
    refine ⟨fun e => ?_, fun e => ?_⟩
    · exact ⟨by omega, go { s with w := .over } _ _ (by rw [if_pos e])⟩
    · exact ⟨by omega, go s _ _ (by rw [if_neg (by simp [e])])⟩
theorem w_after_rest (r : Rg) (hr : r.sm) (s : St) {m k : Nat} (h : s.Ok m k) (hK : 1 + m < 2 ^ 60) (Q : List D → Zs → Prop) (X : Er → Zs → Prop) (z : Zs) (hq : Q ((aRest r s).map rsD) z) : m_after_rest [r.D, s.D] Q X z := by
  rw [me_after_rest]
  simp [s_after_rest]
  refine w_gap_form s _ _ z ?_
  refine w_sign_parts r hr _ (Fm.B.sm (gapf_B h) hK) _ _ z ?_
  have := sgs_len r (gapf s)
  refine wl_rest s _ _ [] _ _ _ _ z (by simp; omega) fun t1 t2 => ?_
  simpa [aRest] using hq
end LW

namespace LW
open PySem PySem.Spec PyProof.Rows L2 DL
theorem wl_span (s : St) (r0 d2 d3 : Sl) (f g : Fm) : ∀ (xs : List (Rg × Int)) (acc : List (Rg × St)) (t1 t2 t3 t4 : Sl) (Q : Fl → Rho → Zs → Prop) (X : Er → Rho → Zs → Prop) (z : Zs), acc.length + xs.length < 16777216 → (∀ q ∈ xs, q.2 = 0 ∨ q.2 = 1 ∨ q.2 = -1) →
    (∀ t1 t2 t3 t4, Q .nx [r0, Sl.fr s.D, d2, d3, Sl.fr (.lst [prD f, prD g]), Sl.own ((acc ++ xs.map fun q => (q.1, if q.2 = 0 then fld s .nothing else { s with spr := spn f g q.2 })).map rsD), t1, t2, t3, t4] z) →
    forL (gTp 2 (gCn (gN 6) (gCn (gN 7) gNl))) p0_after_span (xs.map riD) [r0, Sl.fr s.D, d2, d3, Sl.fr (.lst [prD f, prD g]), Sl.own (acc.map rsD), t1, t2, t3, t4] Q X z := by
  intro xs
  induction xs with
  | nil => intro acc t1 t2 t3 t4 Q X z _ _ h; simpa using h t1 t2 t3 t4
  | cons x r ih =>
    intro acc t1 t2 t3 t4 Q X z hl hx h
    simp only [List.length_cons] at hl
    have go : ∀ (v : St) t1 t2 t3 t4, v = (if x.2 = 0 then fld s .nothing else { s with spr := spn f g x.2 }) → forL (gTp 2 (gCn (gN 6) (gCn (gN 7) gNl))) p0_after_span (r.map riD) [r0, Sl.fr s.D, d2, d3, Sl.fr (.lst [prD f, prD g]), Sl.own (acc.map rsD ++ [.tup [x.1.D, v.D]]), t1, t2, t3, t4] Q X z := fun v t1 t2 t3 t4 ev => by
      have e : acc.map rsD ++ [D.tup [x.1.D, v.D]] = (acc ++ [(x.1, v)]).map rsD := by simp [rsD]
      rw [e]
      refine ih _ _ _ _ _ Q X z (by simp; omega) (fun q hq => hx q (List.mem_cons_of_mem _ hq)) fun t1 t2 t3 t4 => ?_
      have := h t1 t2 t3 t4
      rw [List.map_cons, ← ev] at this
      simpa using this
    simp only [List.map_cons, forL_cons]
    simp [riD]
    rw [p0_after_span]
    have hx0 := hx x List.mem_cons_self
    have e4 : ∀ p q : Int × Int, (D.lst [prD p, prD q]) = D.lst [prD p, prD q] := fun _ _ => rfl
    rcases hx0 with h0 | h0 | h0
    · simp [h0]
      exact w_lead_failed s .nothing _ _ z ⟨by omega, go _ _ _ _ _ (by rw [if_pos h0])⟩
    · simp [h0]
      refine w_form_plus f g (-1) (by decide) _ _ z ?_
      simp
      exact ⟨by omega, go { s with spr := pls f g (-1) } _ _ _ _ (by rw [if_neg (by omega)]; unfold spn; rw [if_pos h0])⟩
    · simp [h0]
      refine w_form_plus g f (-1) (by decide) _ _ z ?_
      simp
      exact ⟨by omega, go { s with spr := pls g f (-1) } _ _ _ _ (by rw [if_neg (by omega)]; unfold spn; rw [if_neg (by omega)])⟩
theorem sgs_sg (r : Rg) (f : Fm) : ∀ q ∈ sgs r f, q.2 = 0 ∨ q.2 = 1 ∨ q.2 = -1 := by
  have k : ∀ (o : Option Rg) (b : Int), (b = 0 ∨ b = 1 ∨ b = -1) → ∀ q ∈ row1 o b, q.2 = 0 ∨ q.2 = 1 ∨ q.2 = -1 := fun o b hb q hq => by
    cases o with
    | none => cases hq
    | some l => rw [List.mem_singleton.mp hq]; exact hb
  have r1 : rise f = 0 ∨ rise f = 1 ∨ rise f = -1 := by unfold rise; split <;> simp
  have r2 : -(rise f) = 0 ∨ -(rise f) = 1 ∨ -(rise f) = -1 := by unfold rise; split <;> simp
  unfold sgs
  split
  · intro q hq
    rw [List.mem_singleton.mp hq]
    simp only
    by_cases h1 : 0 < f.1 <;> by_cases h2 : f.1 < 0 <;> simp [h1, h2] <;> omega
  · intro q hq
    rcases List.mem_append.mp hq with hq | hq
    · exact k _ _ r2 q hq
    · split at hq
      · cases hq
      · rename_i l _
        unfold sgL at hq
        rcases List.mem_append.mp hq with hq | hq
        · exact k _ _ (.inl rfl) q hq
        · exact k _ _ r1 q hq
theorem fof_B {s : St} {m k : Nat} (h : s.Ok m k) {a : Str} {f : Fm} (e : fof s a = some f) : Fm.B f m := by
  unfold fof at e
  have : (a, f) ∈ s.ps := by
    generalize s.ps = l at e
    induction l with
    | nil => cases e
    | cons q r ih =>
      rw [List.lookup_cons] at e
      split at e
      · rename_i k
        rw [beq_iff_eq] at k
        cases e
        subst k
        exact List.mem_cons_self
      · exact List.mem_cons_of_mem _ (ih e)
  exact h.c _ this
theorem w_after_span (r : Rg) (hr : r.sm) (s : St) {m k : Nat} (h : s.Ok m k) (hK : 2 * m < 2 ^ 60) (a c : Str) (Q : List D → Zs → Prop) (X : Er → Zs → Prop) (z : Zs) (hq : Q ((aSpan r s a c).map rsD) z) : m_after_span [r.D, s.D, .tup [.str a, .str c]] Q X z := by
  rw [me_after_span]
  simp [s_after_span]
  unfold aSpan at hq
  rw [forL_cons]
  simp
  rw [p2_after_span]
  simp
  refine w_form_of s a _ _ z ?_
  cases e1 : fof s a with
  | none =>
    rw [e1] at hq
    simp [foD]
    exact w_lead_failed s (.unm a) _ _ z (by simpa [rsD] using hq)
  | some f =>
    rw [e1] at hq
    simp [foD, prD]
    rw [forL_cons]
    simp
    rw [p2_after_span]
    simp
    refine w_form_of s c _ _ z ?_
    cases e2 : fof s c with
    | none =>
      rw [e2] at hq
      simp [foD]
      exact w_lead_failed s (.unm c) _ _ z (by simpa [rsD] using hq)
    | some g =>
      rw [e2] at hq
      simp [foD, prD]
      simp only [wipeR, List.set_cons_zero, List.set_cons_succ]
      refine lc_run 3 _ (fun q : Str × Fm => D.str q.1) (fun q => prD q.2) (fun d => rfl) _ z [(a, f), (c, g)] [] _ _ (fun q hq Q' hQ => ?_) (by simp) ?_
      · rw [p1_after_span]
        simp
        refine w_form_of s q.1 _ _ z ?_
        have : fof s q.1 = some q.2 := by
          rcases List.mem_cons.mp hq with e | hq
          · rw [e]; exact e1
          · rw [List.mem_singleton.mp hq]; exact e2
        rw [this]
        exact hQ
      · simp
        have B := pls_B (c := 1) (d := 2 * m) (fof_B h e1) (fof_B h e2) (by decide : (-1 : Int).natAbs ≤ 1) (by omega)
        refine w_form_plus f g (-1) (by decide) _ _ z ?_
        refine w_sign_parts r hr _ (Fm.B.sm B hK) _ _ z ?_
        have := sgs_len r (pls f g (-1))
        refine wl_span s _ _ _ f g _ [] _ _ _ _ _ _ z (by simp; omega) (sgs_sg r _) fun t1 t2 t3 t4 => ?_
        simpa using hq
end LW

namespace LW
open PySem PySem.Spec PyProof.Rows L2 DL
theorem wl_fill0 (s : St) (c : Int) (hc : c.natAbs < 2 ^ 60) (hl : s.cs.length < 1000) (d0 d2 d6 d7 : Sl) : ∀ (xs : List (Rg × Bool)) (a b : List (Rg × St)) (m : Option Rg) (t1 t2 : Sl) (Q : Fl → Rho → Zs → Prop) (X : Er → Rho → Zs → Prop) (z : Zs), a.length + xs.length < 16777216 → b.length + xs.length < 16777216 →
    (∀ t1 t2, Q .nx [d0, Sl.fr s.D, d2, Sl.fr (.int c), Sl.own ((xs.foldl (fillT s c) (a, b, m)).1.map rsD), Sl.own ((xs.foldl (fillT s c) (a, b, m)).2.1.map rsD), d6, d7, Sl.fr (oD (xs.foldl (fillT s c) (a, b, m)).2.2), t1, t2] z) →
    forL (gTp 2 (gCn (gN 9) (gCn (gN 10) gNl))) p0_after_fill (xs.map rbD) [d0, Sl.fr s.D, d2, Sl.fr (.int c), Sl.own (a.map rsD), Sl.own (b.map rsD), d6, d7, Sl.fr (oD m), t1, t2] Q X z := by
  intro xs
  induction xs with
  | nil => intro a b m t1 t2 Q X z _ _ h; simpa using h t1 t2
  | cons x r ih =>
    intro a b m t1 t2 Q X z ha hb h
    simp only [List.length_cons] at ha hb
    simp only [List.foldl_cons] at h
    simp only [List.map_cons, forL_cons]
    simp [rbD]
    rw [p0_after_fill]
    obtain ⟨x1, x2⟩ := x
    cases x2 with
    | true =>
      simp
      exact ih a b (some x1) _ _ Q X z (by omega) (by omega) h
    | false =>
      cases m with
      | none =>
        simp [oD]
        refine w_lead_filled s c hc hl _ _ z ⟨by omega, ?_⟩
        have e : a.map rsD ++ [D.tup [x1.D, (filled s c).D]] = (a ++ [(x1, filled s c)]).map rsD := by simp [rsD]
        rw [e]
        exact ih _ b none _ _ Q X z (by simp; omega) (by omega) h
      | some y =>
        have e0 : ∀ (T : D → Prop), dIsN (oD (some y)) .non T = T (.bl false) := fun T => by unfold oD Rg.D; simp
        simp [e0]
        refine w_lead_filled s c hc hl _ _ z ⟨by omega, ?_⟩
        have e : b.map rsD ++ [D.tup [x1.D, (filled s c).D]] = (b ++ [(x1, filled s c)]).map rsD := by simp [rsD]
        rw [e]
        exact ih a _ (some y) _ _ Q X z (by omega) (by simp; omega) h
theorem fold_sm (s : St) (c : Int) : ∀ (xs : List (Rg × Bool)) (q : List (Rg × St) × List (Rg × St) × Option Rg), (∀ p ∈ xs, p.1.sm) → (∀ l ∈ q.2.2, l.sm) → ∀ l ∈ (xs.foldl (fillT s c) q).2.2, l.sm := by
  intro xs
  induction xs with
  | nil => intro q _ h; exact h
  | cons x r ih =>
    intro q hx h
    rw [List.foldl_cons]
    refine ih _ (fun p hp => hx p (List.mem_cons_of_mem _ hp)) ?_
    unfold fillT
    split
    · intro l hl
      cases hl
      exact hx x List.mem_cons_self
    · split
      · intro l hl; cases hl
      · rename_i m e
        intro l hl
        cases hl
        exact h _ e
theorem fold_len (s : St) (c : Int) : ∀ (xs : List (Rg × Bool)) (q : List (Rg × St) × List (Rg × St) × Option Rg), (xs.foldl (fillT s c) q).1.length ≤ q.1.length + xs.length ∧ (xs.foldl (fillT s c) q).2.1.length ≤ q.2.1.length + xs.length := by
  intro xs
  induction xs with
  | nil => intro q; simp
  | cons x r ih =>
    intro q
    rw [List.foldl_cons]
    have := ih (fillT s c q x)
    have k : (fillT s c q x).1.length ≤ q.1.length + 1 ∧ (fillT s c q x).2.1.length ≤ q.2.1.length + 1 := by
      unfold fillT
      split
      · simp
      · split <;> simp
    simp only [List.length_cons]
    omega
theorem wl_fill (s : St) {m k K : Nat} (hs : s.Ok m k) (n : Nat) (hn : n + 2 ≤ K) (hK : K * m < 2 ^ 60) (hn9 : n < 1000) (hk : k < 1000) (d0 : Sl) : ∀ (i c : Nat) (r : Rg) (a b : List (Rg × St)) (t3 t7 t8 t9 t10 : Sl) (Q : Fl → Rho → Zs → Prop) (X : Er → Rho → Zs → Prop) (z : Zs), c + i = n → r.sm → a.length ≤ 2 * c → b.length ≤ 2 * c →
    (∀ ρ, Q (.retO ((fillL s i c r a b).map rsD)) ρ z) →
    (∀ (r' : Rg) (a' b' : List (Rg × St)) t3 t7 t8 t9 t10, r'.sm → a'.length ≤ 2 * n → b'.length ≤ 2 * n → a' ++ [(r', filled s n)] ++ b'.reverse = fillL s i c r a b → Q .nx [d0, Sl.fr s.D, Sl.fr (.int n), t3, Sl.own (a'.map rsD), Sl.own (b'.map rsD), Sl.fr r'.D, t7, t8, t9, t10] z) →
    forL (gN 3) p1_after_fill (rngD (c : Int) i) [d0, Sl.fr s.D, Sl.fr (.int n), t3, Sl.own (a.map rsD), Sl.own (b.map rsD), Sl.fr r.D, t7, t8, t9, t10] Q X z := by
  intro i
  induction i with
  | zero =>
    intro c r a b t3 t7 t8 t9 t10 Q X z hc hr ha hb _ h
    have : c = n := by omega
    subst this
    simpa [rngD] using h r a b t3 t7 t8 t9 t10 hr ha hb (by simp [fillL])
  | succ i ih =>
    intro c r a b t3 t7 t8 t9 t10 Q X z hc hr ha hb h1 h2
    simp only [rngD, forL_cons]
    simp
    rw [p1_after_fill]
    simp
    refine w_gap_form s _ _ z ?_
    have B := stepF_B (n := (c : Int) + 1) hs (K := K) (by omega)
    refine w_form_plus (gapf s) s.spr (-((c : Int) + 1)) (by omega) _ _ z ?_
    refine w_at_least_parts r hr _ (Fm.B.sm B hK) _ _ z ?_
    have L := atL_len r (pls (gapf s) s.spr (-((c : Int) + 1)))
    have S := atL_sm hr (Fm.B.sm B hK)
    have e1 : fillL s (i + 1) (c : Int) r a b = (match (atL r (pls (gapf s) s.spr (-((c : Int) + 1)))).foldl (fillT s c) (a, b, none) with
      | (a', b', none) => a' ++ b'.reverse
      | (a', b', some m) => fillL s i ((c : Int) + 1) m a' b') := rfl
    rw [e1] at h1 h2
    generalize atL r (pls (gapf s) s.spr (-((c : Int) + 1))) = xs at L S h1 h2 ⊢
    have FL := fold_len s c xs (a, b, none)
    have FS := fold_sm s c xs (a, b, none) S (fun l hl => nomatch hl)
    have := hs.l1
    refine wl_fill0 s c (by omega) (by omega) _ _ _ _ xs a b none _ _ _ _ z (by omega) (by omega) fun t1 t2 => ?_
    rcases e : xs.foldl (fillT s c) (a, b, none) with ⟨a', b', m'⟩
    rw [e] at h1 h2 FL FS
    simp only at FL
    cases m' with
    | none =>
      simp [oD]
      have := h1
      simp only [List.map_append, List.map_reverse] at this
      exact ⟨by omega, this _⟩
    | some y =>
      have e0 : ∀ (T : D → Prop), dIsN (oD (some y)) .non T = T (.bl false) := fun T => by unfold oD Rg.D; simp
      simp [e0]
      have e3 : (c : Int) + 1 = ((c + 1 : Nat) : Int) := rfl
      simp only [e3] at h1 h2 ⊢
      exact ih (c + 1) y a' b' _ _ _ _ _ Q X z (by omega) (FS y rfl) (by omega) (by omega) h1 h2
theorem w_after_fill (r : Rg) (hr : r.sm) (s : St) {m k K : Nat} (hs : s.Ok m k) (n : Nat) (hn : n + 2 ≤ K) (hK : K * m < 2 ^ 60) (hn9 : n < 1000) (hk : k < 1000) (Q : List D → Zs → Prop) (X : Er → Zs → Prop) (z : Zs) (hq : Q ((aFill r s n).map rsD) z) : m_after_fill [r.D, s.D, .int n] Q X z := by
  rw [me_after_fill]
  simp [s_after_fill]
  unfold aFill at hq
  have := hs.l1
  refine ⟨by omega, ?_⟩
  refine wl_fill s hs n hn hK hn9 hk _ n 0 r [] [] _ _ _ _ _ _ _ z (by omega) hr (by simp) (by simp) (fun ρ => ?_) fun r' a' b' t3 t7 t8 t9 t10 hr' ha' hb' e => ?_
  · simpa using hq
  · simp
    refine w_lead_filled s n (by omega) (by omega) _ _ z ?_
    have hq2 : Q ((fillL s n (0 : Nat) r [] []).map rsD) z := by simpa using hq
    rw [← e] at hq2
    simp only [List.map_append, List.map_reverse] at hq2
    exact ⟨by omega, by omega, by simpa [rsD] using hq2⟩
end LW

namespace LW
open PySem PySem.Spec PyProof.Rows L2 DL
/-! ## a mark scribed -/
theorem str_ext {a b : Str} (h : a.cps.toList = b.cps.toList) : a = b := by
  cases a; cases b
  simp only at h
  congr
  exact Array.toList_inj.mp h
abbrev lps (x y : Str × Fm) : Bool := ltS x.1 y.1
theorem nd_eq {l : List (Str × Fm)} (h : (l.map (·.1)).Nodup) {a b : Str × Fm} (ha : a ∈ l) (hb : b ∈ l) (e : a.1 = b.1) : a = b := by
  induction l with
  | nil => cases ha
  | cons x r ih =>
    simp only [List.map_cons, List.nodup_cons] at h
    rcases List.mem_cons.mp ha with e1 | ha <;> rcases List.mem_cons.mp hb with e2 | hb
    · rw [e1, e2]
    · exact absurd (List.mem_map.mpr ⟨b, hb, by rw [← e, e1]⟩) h.1
    · exact absurd (List.mem_map.mpr ⟨a, ha, by rw [e, e2]⟩) h.1
    · exact ih h.2 ha hb
theorem dle_prM {l : List (Str × Fm)} (nd : (l.map (·.1)).Nodup) {x y : Str × Fm} (hx : x ∈ l) (hy : y ∈ l) : lps x y = dle (prM x) (prM y) := by
  have al : PySem.W.alike (D.py (prD y.2)) (D.py (prD x.2)) = true := by simp [prD, D.py, pyL, PySem.W.alike, PySem.W.alikeAll]
  have e : dle (prM x) (prM y) = !PySem.W.dataLt (.tuple [.str y.1, D.py (prD y.2)]) (.tuple [.str x.1, D.py (prD x.2)]) := rfl
  rw [e, PySem.W.dataLt_pair (by simp [PySem.W.alike]) al]
  by_cases k : x.1 = y.1
  · have := nd_eq nd hx hy k
    subst this
    have e1 : PyData.eqv (.str x.1) (.str x.1) = true := by simp [PyData.eqv]
    have e2 : PyData.eqv (D.py (prD x.2)) (D.py (prD x.2)) = true := by simp [prD, D.py, pyL, PyData.eqv, PyData.eqvAll]
    simp only [e1, e2, if_true, Bool.not_false]
    unfold lps ltS
    simp only [decide_eq_true_eq]
    exact List.le_refl _
  · have e1 : PyData.eqv (.str y.1) (.str x.1) = false := by simp [PyData.eqv]; exact fun q => k q.symm
    simp only [e1, Bool.false_eq_true, if_false]
    rw [PySem.W.dataLt_str, PySem.W.not_lt_str]
    rfl
theorem sort_prM {l : List (Str × Fm)} (nd : (l.map (·.1)).Nodup) : (l.map prM).mergeSort dle = (l.mergeSort lps).map prM :=
  (List.map_mergeSort (r := lps) (s := dle) (f := prM) fun _ hx _ hy => dle_prM nd hx hy).symm
theorem prM_sort (l : List (Str × Fm)) : isPyL (l.map prM) = true ∧ PySem.W.AllAlike (pyL (l.map prM)) ∧ PySem.W.Sortable (pyL (l.map prM)) ∧ ∀ d ∈ pyL (l.map prM), d.depth ≤ 60 := by
  have m : ∀ d ∈ pyL (l.map prM), ∃ s x y, d = .tuple [.str s, .tuple [.int x, .int y]] := by
    induction l with
    | nil => intro d h; cases h
    | cons a r ih =>
      intro d h
      rcases List.mem_cons.mp h with rfl | h1
      · exact ⟨a.1, _, _, rfl⟩
      · exact ih d h1
  have p : isPyL (l.map prM) = true := by
    clear m
    induction l with
    | nil => rfl
    | cons a r ih => simp [isPyL, D.isPy, ih, prD, prM]
  refine ⟨p, fun d h d' h' => ?_, .inl fun d h => ?_, fun d h => ?_⟩
  · obtain ⟨s, x, y, rfl⟩ := m d h
    obtain ⟨s', x', y', rfl⟩ := m d' h'
    simp [PySem.W.alike, PySem.W.alikeAll]
  · obtain ⟨s, x, y, rfl⟩ := m d h
    exact ⟨_, _, rfl⟩
  · obtain ⟨s, x, y, rfl⟩ := m d h
    simp [PyData.depth, PyData.depthAll]
theorem filt_nd (a : Str) {ms : List (Str × Fm)} (nd : (ms.map (·.1)).Nodup) (p : Fm) : (((ms.filter fun q => decide (q.1 ≠ a)) ++ [(a, p)]).map (·.1)).Nodup := by
  rw [List.map_append, List.nodup_append]
  refine ⟨nd.sublist ((List.filter_sublist ..).map _), by simp, fun x hx y hy => ?_⟩
  simp at hy
  obtain ⟨q, hq, rfl⟩ := List.mem_map.mp hx
  have := (List.mem_filter.mp hq).2
  intro k
  simp [k, hy] at this
theorem scr_ok {s : St} {m k : Nat} (h : s.Ok m k) (a : Str) (ha : PyData.strOk a = true) : (scr s a).Ok m (k + 1) := by
  have p : (insP s.ps a s.spt).Perm ((s.ps.filter fun q => decide (q.1 ≠ a)) ++ [(a, s.spt)]) := List.mergeSort_perm ..
  refine ⟨h.a, h.b, fun q hq => ?_, h.m1, ?_, by have := h.l1; simp [scr]; omega, ?_, fun q hq => ?_, h.wy⟩
  · rcases List.mem_append.mp (p.mem_iff.mp hq) with hq | hq
    · exact h.c q ((List.mem_filter.mp hq).1)
    · rw [List.mem_singleton.mp hq]; exact h.b
  · exact ((p.map (·.1)).nodup_iff).mpr (filt_nd a h.nd _)
  · have e : (scr s a).ps.length = _ := p.length_eq
    have := h.l2
    have := List.length_filter_le (fun q : Str × Fm => decide (q.1 ≠ a)) s.ps
    rw [e]; simp only [List.length_append, List.length_cons, List.length_nil]; omega
  · rcases List.mem_append.mp (p.mem_iff.mp hq) with hq | hq
    · exact h.nm q (List.mem_filter.mp hq).1
    · rw [List.mem_singleton.mp hq]; exact ha
theorem w_lead_scribed (s : St) {m k : Nat} (h : s.Ok m k) (hk : k < 1000) (a : Str) (Q : D → Zs → Prop) (X : Er → Zs → Prop) (z : Zs) (hq : Q (scr s a).D z) : m_lead_scribed [s.D, .str a] Q X z := by
  rw [me_lead_scribed]
  simp [s_lead_scribed]
  have := h.l2
  simp only [wipeR, List.set_cons_zero, List.set_cons_succ]
  refine lc_filt 3 _ prM prM (fun q => decide (q.1 ≠ a)) (fun d => rfl) _ _ z s.ps [] _ _ (fun x hx Q' h => ?_) (fun x hx Q' h => ?_) (by simp; omega) ?_
  · rw [p1_lead_scribed]
    simpa [prM] using h
  · rw [p0_lead_scribed]
    simpa using h
  · simp
    have e : ((s.ps.filter fun q => decide (q.1 ≠ a)).map prM) ++ [D.tup [D.str a, prD s.spt]] = ((s.ps.filter fun q => decide (q.1 ≠ a)) ++ [(a, s.spt)]).map prM := by simp [prM]
    have ef : (fun q : Str × Fm => !decide (q.1 = a)) = fun q => decide (q.1 ≠ a) := by funext q; simp
    have := List.length_filter_le (fun q : Str × Fm => decide (q.1 ≠ a)) s.ps
    obtain ⟨s1, s2, s3, s4⟩ := prM_sort ((s.ps.filter fun q => decide (q.1 ≠ a)) ++ [(a, s.spt)])
    rw [ef, e, sort_prM (filt_nd a h.nd _), u_pairs]
    exact ⟨by omega, ⟨s1, s2, s3, s4, by omega⟩, hq⟩
theorem w_after_plain (s : St) {m k : Nat} (h : s.Ok m k) (hk : k < 1000) (d : Dd) (r : Rg) (s' : St) (he : ∀ r, aDeed r s d = [(r, s')]) (hp : match d with | .left => True | .right => True | .turn => True | .mark _ => True | .go _ => True | _ => False) (Q : D → Zs → Prop) (X : Er → Zs → Prop) (z : Zs) (hq : Q s'.D z) : m_after_plain [s.D, d.D] Q X z := by
  rw [me_after_plain]
  have n1 : ¬ (("right" : Str) = "left") := by decide
  have n2 : ¬ (("turn" : Str) = "left") := by decide
  have n3 : ¬ (("turn" : Str) = "right") := by decide
  have n4 : ¬ (("mark" : Str) = "left") := by decide
  have n5 : ¬ (("mark" : Str) = "right") := by decide
  have n6 : ¬ (("mark" : Str) = "turn") := by decide
  have n7 : ¬ (("go" : Str) = "left") := by decide
  have n8 : ¬ (("go" : Str) = "right") := by decide
  have n9 : ¬ (("go" : Str) = "turn") := by decide
  have na : ¬ (("go" : Str) = "mark") := by decide
  have e := he r
  cases d <;> first | (exact hp.elim) | skip
  all_goals simp only [aDeed, List.cons.injEq, Prod.mk.injEq, true_and, and_true] at e
  all_goals subst e
  all_goals simp [s_after_plain, Dd.D, n1, n2, n3, n4, n5, n6, n7, n8, n9, na]
  · rw [u_sr0]; exact hq
  · rw [u_sr0]; exact hq
  · exact hq
  · exact w_lead_scribed s h hk _ _ _ z hq
  · rename_i a
    refine w_form_of s a _ _ z ?_
    cases e : fof s a with
    | none =>
      rw [e] at hq
      simp [foD]
      exact w_lead_failed s (.unm a) _ _ z hq
    | some f =>
      rw [e] at hq
      simp [foD, prD]
      exact hq
theorem nm_iff (s : St) : s.w = .on ↔ s.w.s = ("" : Str) := by
  cases s.w <;> simp [Wd.s] <;> decide
end LW

namespace LW
open PySem PySem.Spec PyProof.Rows L2 DL
theorem w_after_deed (r : Rg) (hr : r.sm) (s : St) {m k K : Nat} (hs : s.Ok m k) (d : Dd) (hd : d.Ok) (hn : d.nu + 2 ≤ K) (hK : K * m < 2 ^ 60) (hk : k < 1000) (Q : List D → Zs → Prop) (X : Er → Zs → Prop) (z : Zs) (hq : Q ((aDeed r s d).map rsD) z) : m_after_deed [r.D, s.D, d.D] Q X z := by
  rw [me_after_deed]
  have m1 := hs.m1
  have k2 : 2 * m ≤ K * m := Nat.mul_le_mul_right m (by omega)
  have a1 : ¬ (("fill" : Str) = "steps") := by decide
  have a2 : ¬ (("gap" : Str) = "steps") := by decide
  have a3 : ¬ (("gap" : Str) = "fill") := by decide
  have a4 : ¬ (("span" : Str) = "steps") := by decide
  have a5 : ¬ (("span" : Str) = "fill") := by decide
  have a6 : ¬ (("span" : Str) = "gap") := by decide
  have a7 : ¬ (("rest" : Str) = "steps") := by decide
  have a8 : ¬ (("rest" : Str) = "fill") := by decide
  have a9 : ¬ (("rest" : Str) = "gap") := by decide
  have b0 : ¬ (("rest" : Str) = "span") := by decide
  cases d with
  | steps n =>
    simp [s_after_deed, Dd.D]
    simp only [Dd.Ok] at hd
    exact w_after_steps r hr s hs n (by simpa [Dd.nu] using hn) hK (by omega) _ _ z hq
  | fill n =>
    simp [s_after_deed, Dd.D, a1]
    simp only [Dd.Ok] at hd
    obtain ⟨j, rfl⟩ : ∃ j : Nat, n = (j : Int) := ⟨n.toNat, by omega⟩
    exact w_after_fill r hr s hs j (by simpa [Dd.nu] using hn) hK (by omega) hk _ _ z hq
  | gap =>
    simp [s_after_deed, Dd.D, a2, a3]
    exact w_after_gap r hr s hs (by omega) _ _ z hq
  | rest =>
    simp [s_after_deed, Dd.D, a7, a8, a9, b0]
    exact w_after_rest r hr s hs (by omega) _ _ z hq
  | span a c =>
    simp [s_after_deed, Dd.D, a4, a5, a6]
    exact w_after_span r hr s hs (by omega) a c _ _ z hq
  | left =>
    have c1 : ¬ (("left" : Str) = "steps") := by decide
    have c2 : ¬ (("left" : Str) = "fill") := by decide
    have c3 : ¬ (("left" : Str) = "gap") := by decide
    have c4 : ¬ (("left" : Str) = "span") := by decide
    have c5 : ¬ (("left" : Str) = "rest") := by decide
    simp [s_after_deed, Dd.D, c1, c2, c3, c4, c5]
    exact w_after_plain s hs hk .left r _ (fun _ => rfl) trivial _ _ z hq
  | right =>
    have c1 : ¬ (("right" : Str) = "steps") := by decide
    have c2 : ¬ (("right" : Str) = "fill") := by decide
    have c3 : ¬ (("right" : Str) = "gap") := by decide
    have c4 : ¬ (("right" : Str) = "span") := by decide
    have c5 : ¬ (("right" : Str) = "rest") := by decide
    simp [s_after_deed, Dd.D, c1, c2, c3, c4, c5]
    exact w_after_plain s hs hk .right r _ (fun _ => rfl) trivial _ _ z hq
  | turn =>
    have c1 : ¬ (("turn" : Str) = "steps") := by decide
    have c2 : ¬ (("turn" : Str) = "fill") := by decide
    have c3 : ¬ (("turn" : Str) = "gap") := by decide
    have c4 : ¬ (("turn" : Str) = "span") := by decide
    have c5 : ¬ (("turn" : Str) = "rest") := by decide
    simp [s_after_deed, Dd.D, c1, c2, c3, c4, c5]
    exact w_after_plain s hs hk .turn r _ (fun _ => rfl) trivial _ _ z hq
  | mark a =>
    have c1 : ¬ (("mark" : Str) = "steps") := by decide
    have c2 : ¬ (("mark" : Str) = "fill") := by decide
    have c3 : ¬ (("mark" : Str) = "gap") := by decide
    have c4 : ¬ (("mark" : Str) = "span") := by decide
    have c5 : ¬ (("mark" : Str) = "rest") := by decide
    simp [s_after_deed, Dd.D, c1, c2, c3, c4, c5]
    exact w_after_plain s hs hk (.mark a) r _ (fun _ => rfl) trivial _ _ z hq
  | go a =>
    have c1 : ¬ (("go" : Str) = "steps") := by decide
    have c2 : ¬ (("go" : Str) = "fill") := by decide
    have c3 : ¬ (("go" : Str) = "gap") := by decide
    have c4 : ¬ (("go" : Str) = "span") := by decide
    have c5 : ¬ (("go" : Str) = "rest") := by decide
    simp [s_after_deed, Dd.D, c1, c2, c3, c4, c5]
    exact w_after_plain s hs hk (.go a) r _ (fun _ => rfl) trivial _ _ z hq
theorem fillL_ok (s : St) {m k K : Nat} (hs : s.Ok m k) (n : Nat) (hn : n + 2 ≤ K) (hK : K * m < 2 ^ 60) : ∀ (i c : Nat) (r : Rg) (a b : List (Rg × St)), c + i = n → r.sm → (∀ q ∈ a, q.1.sm ∧ q.2.Ok (K * m) (k + 1)) → (∀ q ∈ b, q.1.sm ∧ q.2.Ok (K * m) (k + 1)) → ∀ q ∈ fillL s i c r a b, q.1.sm ∧ q.2.Ok (K * m) (k + 1) := by
  have fo : ∀ (c : Nat), c ≤ n → ∀ (xs : List (Rg × Bool)) (q : List (Rg × St) × List (Rg × St) × Option Rg), (∀ p ∈ xs, p.1.sm) → (∀ p ∈ q.1, p.1.sm ∧ p.2.Ok (K * m) (k + 1)) → (∀ p ∈ q.2.1, p.1.sm ∧ p.2.Ok (K * m) (k + 1)) → (∀ p ∈ (xs.foldl (fillT s c) q).1, p.1.sm ∧ p.2.Ok (K * m) (k + 1)) ∧ (∀ p ∈ (xs.foldl (fillT s c) q).2.1, p.1.sm ∧ p.2.Ok (K * m) (k + 1)) := by
    intro c hc xs
    induction xs with
    | nil => intro q _ h1 h2; exact ⟨h1, h2⟩
    | cons x r ih =>
      intro q hx h1 h2
      have nw : x.1.sm ∧ (filled s c).Ok (K * m) (k + 1) := ⟨hx x List.mem_cons_self, filled_ok hs (by omega)⟩
      have ap : ∀ l : List (Rg × St), (∀ p ∈ l, p.1.sm ∧ p.2.Ok (K * m) (k + 1)) → ∀ p ∈ l ++ [(x.1, filled s c)], p.1.sm ∧ p.2.Ok (K * m) (k + 1) := fun l hl p hp => by
        rcases List.mem_append.mp hp with hp | hp
        · exact hl p hp
        · rw [List.mem_singleton.mp hp]; exact nw
      rw [List.foldl_cons]
      refine ih _ (fun p hp => hx p (List.mem_cons_of_mem _ hp)) ?_ ?_
      · unfold fillT
        split
        · exact h1
        · split
          · exact ap _ h1
          · exact h1
      · unfold fillT
        split
        · exact h2
        · split
          · exact h2
          · exact ap _ h2
  intro i
  induction i with
  | zero =>
    intro c r a b hc hr ha hb q hq
    unfold fillL at hq
    rcases List.mem_append.mp hq with hq | hq
    · rcases List.mem_append.mp hq with hq | hq
      · exact ha q hq
      · rw [List.mem_singleton.mp hq]; exact ⟨hr, filled_ok hs (by omega)⟩
    · exact hb q (List.mem_reverse.mp hq)
  | succ i ih =>
    intro c r a b hc hr ha hb q hq
    have B := stepF_B (n := (c : Int) + 1) hs (K := K) (by omega)
    have S := atL_sm hr (Fm.B.sm B hK)
    have F := fo c (by omega) (atL r (pls (gapf s) s.spr (-((c : Int) + 1)))) (a, b, none) S ha hb
    have G := fold_sm s c (atL r (pls (gapf s) s.spr (-((c : Int) + 1)))) (a, b, none) S (fun l hl => nomatch hl)
    unfold fillL at hq
    rcases e : (atL r (pls (gapf s) s.spr (-((c : Int) + 1)))).foldl (fillT s c) (a, b, none) with ⟨a', b', m'⟩
    rw [e] at hq F G
    cases m' with
    | none =>
      rcases List.mem_append.mp hq with hq | hq
      · exact F.1 q hq
      · exact F.2 q (List.mem_reverse.mp hq)
    | some y => exact ih (c + 1) y a' b' (by omega) (G y rfl) F.1 F.2 q hq
theorem aDeed_ok (r : Rg) (hr : r.sm) (s : St) {m k K : Nat} (hs : s.Ok m k) (d : Dd) (hd : d.Ok) (hn : d.nu + 2 ≤ K) (hK : K * m < 2 ^ 60) : ∀ q ∈ aDeed r s d, q.1.sm ∧ q.2.Ok (K * m) (k + 1) := by
  have m1 := hs.m1
  have k2 : 2 * m ≤ K * m := Nat.mul_le_mul_right m (by omega)
  have hm : s.Ok (K * m) (k + 1) := hs.mono (by omega) (by omega)
  have gB : Fm.B (gapf s) (K * m) := Fm.B.mono (gapf_B hs) (by omega)
  have gs : sm (gapf s) := Fm.B.sm gB hK
  intro q hq
  cases d with
  | steps n =>
    simp only [Dd.nu] at hn
    obtain ⟨p, hp, rfl⟩ := List.mem_map.mp hq
    refine ⟨atL_sm hr (Fm.B.sm (stepF_B hs hn) hK) p hp, ?_⟩
    simp only
    split
    · exact (mvd_ok hs hn).mono (by omega) (by omega)
    · exact fld_ok hm _ fun _ h => (nomatch h)
  | fill n =>
    simp only [Dd.nu] at hn
    exact fillL_ok s hs n.toNat (by omega) hK n.toNat 0 r [] [] (by omega) hr (fun q hq => nomatch hq) (fun q hq => nomatch hq) q hq
  | gap =>
    obtain ⟨p, hp, rfl⟩ := List.mem_map.mp hq
    refine ⟨sgs_sm hr gs p hp, ?_⟩
    simp only
    split
    · exact fld_ok hm _ fun _ h => (nomatch h)
    · exact ⟨gB, hm.b, hm.c, hm.m1, hm.nd, hm.l1, hm.l2, hm.nm, hm.wy⟩
  | rest =>
    obtain ⟨p, hp, rfl⟩ := List.mem_map.mp hq
    refine ⟨sgs_sm hr gs p hp, ?_⟩
    simp only
    split
    · exact ⟨hm.a, hm.b, hm.c, hm.m1, hm.nd, hm.l1, hm.l2, hm.nm, hm.wy⟩
    · exact hm
  | span a c =>
    replace hq : q ∈ aSpan r s a c := hq
    unfold aSpan at hq
    split at hq
    · rw [List.mem_singleton.mp hq]; exact ⟨hr, fld_ok hm _ fun b h => (by cases h; exact nm_strOk hd.1)⟩
    · split at hq
      · rw [List.mem_singleton.mp hq]; exact ⟨hr, fld_ok hm _ fun b h => (by cases h; exact nm_strOk hd.2)⟩
      · rename_i f e1 _ g e2
        have B := pls_B (c := 1) (d := 2 * m) (fof_B hs e1) (fof_B hs e2) (by decide : (-1 : Int).natAbs ≤ 1) (by omega)
        have B2 := pls_B (c := 1) (d := 2 * m) (fof_B hs e2) (fof_B hs e1) (by decide : (-1 : Int).natAbs ≤ 1) (by omega)
        obtain ⟨p, hp, rfl⟩ := List.mem_map.mp hq
        refine ⟨sgs_sm hr (Fm.B.sm B (by omega)) p hp, ?_⟩
        simp only
        split
        · exact fld_ok hm _ fun _ h => (nomatch h)
        · refine ⟨?_, hm.b, hm.c, hm.m1, hm.nd, hm.l1, hm.l2, hm.nm, hm.wy⟩
          simp only [spn]
          split
          · exact Fm.B.mono B k2
          · exact Fm.B.mono B2 k2
  | left => rw [List.mem_singleton.mp hq]; exact ⟨hr, hm.a, ⟨by simp, by simp⟩, hm.c, hm.m1, hm.nd, hm.l1, hm.l2, hm.nm, hm.wy⟩
  | right => rw [List.mem_singleton.mp hq]; exact ⟨hr, hm.a, ⟨by simpa using hm.m1, by simp⟩, hm.c, hm.m1, hm.nd, hm.l1, hm.l2, hm.nm, hm.wy⟩
  | turn => rw [List.mem_singleton.mp hq]; exact ⟨hr, hm.a, hm.b, hm.c, hm.m1, hm.nd, hm.l1, hm.l2, hm.nm, hm.wy⟩
  | mark a => rw [List.mem_singleton.mp hq]; exact ⟨hr, (scr_ok hs a (nm_strOk hd)).mono (by omega) (by omega)⟩
  | go a =>
    rw [List.mem_singleton.mp hq]
    refine ⟨hr, ?_⟩
    simp only
    split
    · exact fld_ok hm _ fun b h => (by cases h; exact nm_strOk hd)
    · rename_i f e1
      exact ⟨hm.a, Fm.B.mono (fof_B hs e1) (by omega), hm.c, hm.m1, hm.nd, hm.l1, hm.l2, hm.nm, hm.wy⟩
end LW

namespace LW
open PySem PySem.Spec PyProof.Rows L2 DL
abbrev RSOk (m k : Nat) (l : List (Rg × St)) : Prop := ∀ q ∈ l, q.1.sm ∧ q.2.Ok m k
theorem ledS_ok {m k K : Nat} (i : Nat) (d : Dd) (hd : d.Ok) (hn : d.nu + 2 ≤ K) (hK : K * m < 2 ^ 60) (l : List (Rg × St)) (h : RSOk m k l) : RSOk (K * m) (k + 1) (ledS i d l) := by
  intro q hq
  unfold ledS at hq
  obtain ⟨p, hp, hq⟩ := List.mem_flatMap.mp hq
  have h1 := h p hp
  split at hq
  · exact aDeed_ok p.1 h1.1 { p.2 with ix := (i : Int) } ⟨h1.2.a, h1.2.b, h1.2.c, h1.2.m1, h1.2.nd, h1.2.l1, h1.2.l2, h1.2.nm, h1.2.wy⟩ d hd hn hK q hq
  · rw [List.mem_singleton.mp hq]
    exact ⟨h1.1, h1.2.mono (Nat.le_mul_of_pos_left _ (by omega)) (by omega)⟩
theorem st_led (m : List D → E0 (List D)) (i : Nat) (d : D) (d0 d1 : Sl) (acc : List D) (r : Rg) (s : St) (Q : Fl → Rho → Zs → Prop) (X : Er → Rho → Zs → Prop) (z : Zs)
    (h1 : s.w = .on → m [r.D, ({ s with ix := (i : Int) } : St).D, d] (fun es z => acc.length + es.length ≤ 16777216 ∧ Q .nx [d0, d1, Sl.fr (.int i), Sl.fr d, Sl.own (acc ++ es), Sl.fr r.D, Sl.fr s.D] z) (fun e z => X e [d0, d1, Sl.fr (.int i), Sl.fr d, Sl.own acc, Sl.fr r.D, Sl.fr s.D] z) z)
    (h2 : ¬ s.w = .on → acc.length < 16777216 ∧ Q .nx [d0, d1, Sl.fr (.int i), Sl.fr d, Sl.own (acc ++ [.tup [r.D, s.D]]), Sl.fr r.D, Sl.fr s.D] z) :
    (sIf (eT (bO dEq (bO dGet (ePk 6) (ep (.str "word"))) (ep (.str ""))))
    (sExt 4 (oP (eCall 3 3 0 m gL (aC (eVar 5) (aC (eSpr (eVar 6) ["index"] (aC (eVar 2) aN)) (aC (eVar 3) aN))) aN)))
    (sApp 4 (eTup (aC (eVar 5) (aC (eVar 6) aN))))) [d0, d1, Sl.fr (.int i), Sl.fr d, Sl.own acc, Sl.fr r.D, Sl.fr s.D] Q X z := by
  simp
  exact ⟨fun e => h1 ((nm_iff s).mpr e), fun e => h2 fun q => e ((nm_iff s).mp q)⟩
theorem wl_led1 (i : Nat) (d : Dd) (hd : d.Ok) {m k K : Nat} (hn : d.nu + 2 ≤ K) (hK : K * m < 2 ^ 60) (hk : k < 1000) (d0 d1 : Sl) : ∀ (l acc : List (Rg × St)) (t1 t2 : Sl) (Q : Fl → Rho → Zs → Prop) (X : Er → Rho → Zs → Prop) (z : Zs), RSOk m k l → acc.length + (ledS i d l).length < 16777216 →
    (∀ t1 t2, Q .nx [d0, d1, Sl.fr (.int i), Sl.fr d.D, Sl.own ((acc ++ ledS i d l).map rsD), t1, t2] z) →
    forL (gTp 2 (gCn (gN 5) (gCn (gN 6) gNl))) p1_led_parts (l.map rsD) [d0, d1, Sl.fr (.int i), Sl.fr d.D, Sl.own (acc.map rsD), t1, t2] Q X z := by
  intro l
  induction l with
  | nil => intro acc t1 t2 Q X z _ _ h; simpa [ledS] using h t1 t2
  | cons x r ih =>
    intro acc t1 t2 Q X z ho hl h
    have ho1 := ho x List.mem_cons_self
    have e0 : ledS i d (x :: r) = (if x.2.w = .on then aDeed x.1 { x.2 with ix := (i : Int) } d else [x]) ++ ledS i d r := by unfold ledS; rw [List.flatMap_cons]
    rw [e0] at hl h
    have go : ∀ (v : List (Rg × St)) t1 t2, v = (if x.2.w = .on then aDeed x.1 { x.2 with ix := (i : Int) } d else [x]) → forL (gTp 2 (gCn (gN 5) (gCn (gN 6) gNl))) p1_led_parts (r.map rsD) [d0, d1, Sl.fr (.int i), Sl.fr d.D, Sl.own (acc.map rsD ++ v.map rsD), t1, t2] Q X z := fun v t1 t2 ev => by
      rw [← ev] at h hl
      rw [← List.map_append]
      refine ih _ _ _ Q X z (fun q hq => ho q (List.mem_cons_of_mem _ hq)) (by simp only [List.length_append] at hl ⊢; omega) fun t1 t2 => ?_
      rw [List.append_assoc]
      exact h t1 t2
    simp only [List.length_append] at hl
    simp only [List.map_cons, forL_cons]
    show (gTp 2 (gCn (gN 5) (gCn (gN 6) gNl))) (rsD x) _ _
    simp [rsD]
    rw [p1_led_parts]
    refine st_led m_after_deed i d.D d0 d1 _ x.1 x.2 _ _ z (fun e1 => ?_) fun e1 => ?_
    · rw [if_pos e1] at go hl
      refine w_after_deed x.1 ho1.1 { x.2 with ix := (i : Int) } ⟨ho1.2.a, ho1.2.b, ho1.2.c, ho1.2.m1, ho1.2.nd, ho1.2.l1, ho1.2.l2, ho1.2.nm, ho1.2.wy⟩ d hd hn hK hk _ _ z ⟨by simp; omega, ?_⟩
      simp
      exact go _ _ _ rfl
    · rw [if_neg e1] at go hl
      simp only [List.length_cons, List.length_nil] at hl
      refine ⟨by simp; omega, ?_⟩
      simp
      exact go [x] _ _ rfl
theorem wl_led2 {K : Nat} (hK2 : 2 ≤ K) (d0 : Sl) : ∀ (ds : List Dd) (i m k : Nat) (l : List (Rg × St)) (t2 t3 t4 t5 t6 : Sl) (Q : Fl → Rho → Zs → Prop) (X : Er → Rho → Zs → Prop) (z : Zs), (∀ d ∈ ds, d.Ok ∧ d.nu + 2 ≤ K) → K ^ ds.length * m < 2 ^ 60 → k + ds.length < 1000 → RSOk m k l → (∀ j ≤ ds.length, (ledF i (ds.take j) l).length < 16777216) →
    (∀ t2 t3 t4 t5 t6, Q .nx [d0, Sl.fr (.lst ((ledF i ds l).map rsD)), t2, t3, t4, t5, t6] z) →
    forL (gTp 2 (gCn (gN 2) (gCn (gN 3) gNl))) p2_led_parts (enumD i (ds.map Dd.D)) [d0, Sl.fr (.lst (l.map rsD)), t2, t3, t4, t5, t6] Q X z := by
  intro ds
  induction ds with
  | nil => intro i m k l t2 t3 t4 t5 t6 Q X z _ _ _ _ _ h; simpa [ledF, enumD] using h t2 t3 t4 t5 t6
  | cons d r ih =>
    intro i m k l t2 t3 t4 t5 t6 Q X z hd hm hk ho hl h
    have hd1 := hd d List.mem_cons_self
    simp only [List.length_cons] at hm hk hl
    have hm2 : K ^ r.length * (K * m) < 2 ^ 60 := by rw [← Nat.mul_assoc, ← Nat.pow_succ]; exact hm
    have hm3 : K * m < 2 ^ 60 := Nat.lt_of_le_of_lt (Nat.le_mul_of_pos_left _ (Nat.pow_pos (by omega))) hm2
    simp only [List.map_cons, enumD, forL_cons]
    simp
    rw [p2_led_parts]
    simp
    refine wl_led1 i d hd1.1 hd1.2 hm3 (by omega) _ _ l [] _ _ _ _ z ho ?_ fun t1 t2 => ?_
    · have := hl 1 (by omega)
      simp [ledF] at this
      simp; omega
    · simp
      refine ih (i + 1) (K * m) (k + 1) (ledS i d l) _ _ _ _ _ Q X z (fun x hx => hd x (List.mem_cons_of_mem _ hx)) hm2 (by omega) (ledS_ok i d hd1.1 hd1.2 hm3 l ho) (fun j hj => ?_) h
      have := hl (j + 1) (by omega)
      simpa [ledF] using this
end LW

namespace LW
open PySem PySem.Spec PyProof.Rows L2 DL
/-! ## what is told -/
def En.D : En → D
  | .bad i y => .tup [.str "failed", .int i, y.D]
  | .ok o f g ps => .tup [.str (if o = true then "over" else "done"), prD f, prD g, .lst (ps.map prM)]
def csD (cs : List Int) : D := .lst (cs.map .int)
def rwD (p : Rw) : D := .tup [p.1.D, csD p.2.1, p.2.2.D]
/-! data that can be compared -/
def gd (n : Nat) (d : D) : Prop := d.isPy = true ∧ d.py.canLay0 = true ∧ d.py.depth ≤ n
theorem gd_int (i : Int) : gd 0 (.int i) := ⟨rfl, rfl, Nat.le_refl _⟩
theorem gd_bl (b : Bool) : gd 0 (.bl b) := ⟨rfl, rfl, Nat.le_refl _⟩
theorem gd_str {s : Str} (h : PyData.strOk s = true) : gd 0 (.str s) := ⟨rfl, h, Nat.le_refl _⟩
theorem gd_mono {n m : Nat} {d : D} (h : gd n d) (k : n ≤ m) : gd m d := ⟨h.1, h.2.1, by have := h.2.2; omega⟩
theorem gd_all {n : Nat} : ∀ {ds : List D}, (∀ d ∈ ds, gd n d) → isPyL ds = true ∧ PyData.canLayAll0 (pyL ds) = true ∧ PyData.depthAll (pyL ds) ≤ n
  | [], _ => ⟨rfl, rfl, Nat.zero_le _⟩
  | d :: r, h => by
    have a := gd_all fun x hx => h x (List.mem_cons_of_mem _ hx)
    have b := h d List.mem_cons_self
    refine ⟨?_, ?_, ?_⟩
    · simp [isPyL, a.1, b.1]
    · simp [pyL, PyData.canLayAll0, a.2.1, b.2.1]
    · have := a.2.2
      have := b.2.2
      simp only [pyL, PyData.depthAll]
      omega
theorem gd_tup {n : Nat} {ds : List D} (h : ∀ d ∈ ds, gd n d) : gd (n + 1) (.tup ds) := by
  have a := gd_all h
  refine ⟨by simpa [D.isPy] using a.1, by simpa [D.py, PyData.canLay0] using a.2.1, ?_⟩
  have := a.2.2
  simp only [D.py, PyData.depth]
  omega
theorem gd_lst {n : Nat} {ds : List D} (h : ∀ d ∈ ds, gd n d) : gd (n + 1) (.lst ds) := by
  have a := gd_all h
  refine ⟨by simpa [D.isPy] using a.1, by simpa [D.py, PyData.canLay0] using a.2.1, ?_⟩
  have := a.2.2
  simp only [D.py, PyData.depth]
  omega
theorem gd_shaped {n : Nat} {d : D} (h : gd n d) (k : n ≤ 64) : SeqAt.shaped d.py = true := by
  unfold SeqAt.shaped
  rw [h.2.1]
  have := h.2.2
  simp; omega
theorem gd_eq {n m : Nat} {a b : D} (ha : gd n a) (hb : gd m b) (hn : n ≤ 64) (hm : m ≤ 64) {t : Bool} (e : PyData.eqv a.py b.py = t) (Q : Bool → Prop) : dEqG a b Q = Q t := dEqG_of ha.1 hb.1 (gd_shaped ha hn) (gd_shaped hb hm) e Q
theorem gd_prD (p : Int × Int) : gd 1 (prD p) := gd_tup fun d hd => by
  simp at hd
  rcases hd with rfl | rfl <;> exact gd_int _
theorem gd_rg (r : Rg) : gd 2 r.D := gd_tup fun d hd => by
  simp at hd
  rcases hd with rfl | rfl | rfl | rfl
  · exact gd_prD _
  · exact gd_mono (gd_bl _) (by omega)
  · exact gd_prD _
  · exact gd_mono (gd_bl _) (by omega)
theorem gd_cs (cs : List Int) : gd 1 (csD cs) := gd_lst fun d hd => by
  obtain ⟨i, _, rfl⟩ := List.mem_map.mp hd
  exact gd_int i
/-- an end's names are texts -/
def En.Nm : En → Prop
  | .bad _ y => ∀ a, y = .unm a → PyData.strOk a = true
  | .ok _ _ _ ps => ∀ q ∈ ps, PyData.strOk q.1 = true
theorem so1 : PyData.strOk "failed" = true := by decide +kernel
theorem so2 : PyData.strOk "over" = true := by decide +kernel
theorem so3 : PyData.strOk "done" = true := by decide +kernel
theorem so4 : PyData.strOk "" = true := by decide +kernel
theorem so5 : PyData.strOk "beyond" = true := by decide +kernel
theorem so6 : PyData.strOk "nothing" = true := by decide +kernel
theorem so7 : PyData.strOk "unmarked" = true := by decide +kernel
theorem gd_why (y : Why) (h : ∀ a, y = .unm a → PyData.strOk a = true) : gd 1 y.D := by
  cases y with
  | no => exact gd_mono (gd_str so4) (by omega)
  | beyond => exact gd_mono (gd_str so5) (by omega)
  | nothing => exact gd_mono (gd_str so6) (by omega)
  | unm a =>
      refine gd_tup fun d hd => ?_
      simp at hd
      rcases hd with rfl | rfl
      · exact gd_str so7
      · exact gd_str (h a rfl)
theorem gd_ps {ps : List (Str × Fm)} (h : ∀ q ∈ ps, PyData.strOk q.1 = true) : gd 3 (.lst (ps.map prM)) := gd_lst fun d hd => by
  obtain ⟨q, hq, rfl⟩ := List.mem_map.mp hd
  refine gd_tup fun d hd => ?_
  simp at hd
  rcases hd with rfl | rfl
  · exact gd_mono (gd_str (h q hq)) (by omega)
  · exact gd_prD _
theorem gd_en (e : En) (h : e.Nm) : gd 4 e.D := by
  cases e with
  | bad i y =>
      refine gd_tup fun d hd => ?_
      simp at hd
      rcases hd with rfl | rfl | rfl
      · exact gd_mono (gd_str so1) (by omega)
      · exact gd_mono (gd_int _) (by omega)
      · exact gd_mono (gd_why y h) (by omega)
  | ok o f g ps =>
      refine gd_tup fun d hd => ?_
      simp at hd
      rcases hd with rfl | rfl | rfl | rfl
      · cases o
        · exact gd_mono (gd_str so3) (by omega)
        · exact gd_mono (gd_str so2) (by omega)
      · exact gd_mono (gd_prD _) (by omega)
      · exact gd_mono (gd_prD _) (by omega)
      · exact gd_ps h
theorem gd_rw (p : Rw) (h : p.2.2.Nm) : gd 5 (rwD p) := gd_tup fun d hd => by
  simp at hd
  rcases hd with rfl | rfl | rfl
  · exact gd_mono (gd_rg _) (by omega)
  · exact gd_mono (gd_cs _) (by omega)
  · exact gd_en _ h
theorem ev_ints : ∀ a b : List Int, PyData.eqvAll (pyL (a.map .int)) (pyL (b.map .int)) = decide (a = b)
  | [], [] => rfl
  | [], _ :: _ => rfl
  | _ :: _, [] => rfl
  | x :: a, y :: b => by
    have ih := ev_ints a b
    simp only [List.map_cons, pyL, PyData.eqvAll, ih, D.py, PyData.eqv]
    by_cases e : x = y <;> by_cases e2 : a = b <;> simp [e, e2]
theorem ev_prD (p q : Int × Int) : PyData.eqv (prD p).py (prD q).py = decide (p = q) := by
  obtain ⟨a, b⟩ := p
  obtain ⟨c, d⟩ := q
  simp only [prD, D.py, pyL, PyData.eqv, PyData.eqvAll]
  by_cases e : a = c <;> by_cases e2 : b = d <;> simp [e, e2]
theorem ev_prM (p q : Str × Fm) : PyData.eqv (prM p).py (prM q).py = decide (p = q) := by
  obtain ⟨a, b⟩ := p
  obtain ⟨c, d⟩ := q
  have := ev_prD b d
  simp only [prM, D.py, pyL, PyData.eqv, PyData.eqvAll, this]
  by_cases e : a = c <;> by_cases e2 : b = d <;> simp [e, e2]
theorem ev_ps : ∀ a b : List (Str × Fm), PyData.eqvAll (pyL (a.map prM)) (pyL (b.map prM)) = decide (a = b)
  | [], [] => rfl
  | [], _ :: _ => rfl
  | _ :: _, [] => rfl
  | x :: a, y :: b => by
    have ih := ev_ps a b
    have h1 := ev_prM x y
    simp only [List.map_cons, pyL, PyData.eqvAll, ih, h1]
    by_cases e : x = y <;> by_cases e2 : a = b <;> simp [e, e2]
theorem ev_why (a b : Why) : PyData.eqv a.D.py b.D.py = decide (a = b) := by
  have k1 : ¬ (("" : Str) = "beyond") := by decide
  have k2 : ¬ (("" : Str) = "nothing") := by decide
  have k3 : ¬ (("beyond" : Str) = "") := by decide
  have k4 : ¬ (("beyond" : Str) = "nothing") := by decide
  have k5 : ¬ (("nothing" : Str) = "") := by decide
  have k6 : ¬ (("nothing" : Str) = "beyond") := by decide
  cases a <;> cases b <;> simp [Why.D, D.py, pyL, PyData.eqv, PyData.eqvAll, k1, k2, k3, k4, k5, k6]
  rename_i x y
  by_cases e : x = y <;> simp [e]
theorem ev_en (a b : En) : PyData.eqv a.D.py b.D.py = decide (a = b) := by
  have k1 : ¬ (("failed" : Str) = "over") := by decide
  have k2 : ¬ (("failed" : Str) = "done") := by decide
  have k3 : ¬ (("over" : Str) = "failed") := by decide
  have k4 : ¬ (("over" : Str) = "done") := by decide
  have k5 : ¬ (("done" : Str) = "failed") := by decide
  have k6 : ¬ (("done" : Str) = "over") := by decide
  cases a with
  | bad i y => cases b with
    | bad j v =>
      have := ev_why y v
      simp only [En.D, D.py, pyL, PyData.eqv, PyData.eqvAll, this]
      by_cases e : i = j <;> by_cases e2 : y = v <;> simp [e, e2]
    | ok o f g ps => cases o <;> simp [En.D, D.py, pyL, PyData.eqv, PyData.eqvAll, k1, k2]
  | ok o f g ps => cases b with
    | bad j v => cases o <;> simp [En.D, D.py, pyL, PyData.eqv, PyData.eqvAll, k3, k5]
    | ok o' f' g' ps' =>
      have h1 := ev_prD f f'
      have h2 := ev_prD g g'
      have h3 := ev_ps ps ps'
      simp only [En.D, D.py, pyL, PyData.eqv, PyData.eqvAll, h1, h2, h3]
      cases o <;> cases o' <;> by_cases e : f = f' <;> by_cases e1 : g = g' <;> by_cases e2 : ps = ps' <;> simp [e, e1, e2, k4, k6]
theorem eq_tail (p q : List Int × En) (hp : p.2.Nm) (hq : q.2.Nm) (Q : Bool → Prop) : dEqG (.tup [csD p.1, p.2.D]) (.tup [csD q.1, q.2.D]) Q = Q (decide (p = q)) := by
  have g : ∀ p : List Int × En, p.2.Nm → gd 5 (.tup [csD p.1, p.2.D]) := fun p h => gd_tup fun d hd => by
    simp at hd
    rcases hd with rfl | rfl
    · exact gd_mono (gd_cs _) (by omega)
    · exact gd_en _ h
  refine gd_eq (g p hp) (g q hq) (by omega) (by omega) ?_ Q
  have h1 := ev_ints p.1 q.1
  have h2 := ev_en p.2 q.2
  obtain ⟨a, b⟩ := p
  obtain ⟨c, d⟩ := q
  simp only [csD, D.py, pyL, PyData.eqv, PyData.eqvAll, h2] at h1 ⊢
  rw [h1]
  by_cases e : a = c <;> by_cases e2 : b = d <;> simp [e, e2]
theorem eq_rows (l : List Rw) (h : ∀ p ∈ l, p.2.2.Nm) (Q : Bool → Prop) : dEqG (.lst (l.map rwD)) (.lst []) Q = Q l.isEmpty := by
  refine gd_eq (gd_lst (n := 5) fun d hd => ?_) (gd_lst (n := 0) (ds := []) fun d hd => (nomatch hd)) (by omega) (by omega) ?_ Q
  · obtain ⟨p, hp, rfl⟩ := List.mem_map.mp hd
    exact gd_rw p (h p hp)
  · cases l <;> simp [D.py, pyL, PyData.eqv, PyData.eqvAll]
end LW

namespace LW
open PySem PySem.Spec PyProof.Rows L2 DL
theorem w_end_told (s : St) (h : s.w ≠ .on) (Q : D → Zs → Prop) (X : Er → Zs → Prop) (z : Zs) (hq : Q (endT s).D z) : m_end_told [s.D] Q X z := by
  rw [me_end_told]
  simp [s_end_told]
  unfold endT at hq
  have f1 : ¬ (("over" : Str) = "failed") := by decide
  have f2 : ¬ (("done" : Str) = "failed") := by decide
  cases e : s.w with
  | on => exact absurd e h
  | failed => rw [e] at hq; simpa [Wd.s, En.D] using hq
  | over => rw [e] at hq; simpa [Wd.s, En.D, f1] using hq
  | done => rw [e] at hq; simpa [Wd.s, En.D, f2] using hq
theorem wl_ranges (d0 : Sl) : ∀ (l : List (Rg × St)) (acc : List Rw) (t2 t3 t4 t5 : Sl) (Q : Fl → Rho → Zs → Prop) (X : Er → Rho → Zs → Prop) (z : Zs), (∀ p ∈ l, p.2.w ≠ .on ∧ (endT p.2).Nm) → (∀ p ∈ acc, p.2.2.Nm) → acc.length + l.length < 16777216 →
    (∀ t2 t3 t4 t5, Q .nx [d0, Sl.own (((l.map fun p => (p.1, p.2.cs, endT p.2)).foldl fuse1 acc).map rwD), t2, t3, t4, t5] z) →
    forL (gTp 2 (gCn (gN 2) (gCn (gN 3) gNl))) p0_ranges (l.map rsD) [d0, Sl.own (acc.map rwD), t2, t3, t4, t5] Q X z := by
  intro l
  induction l with
  | nil => intro acc t2 t3 t4 t5 Q X z _ _ _ h; simpa using h t2 t3 t4 t5
  | cons x r ih =>
    intro acc t2 t3 t4 t5 Q X z ho hN hl h
    simp only [List.map_cons, forL_cons]
    simp [rsD]
    rw [p0_ranges]
    simp
    have hx := ho x List.mem_cons_self
    simp only [List.length_cons] at hl
    have go : ∀ (rg : Rg) (acc' : List Rw) t2 t3 t4 t5, fuse1 acc (x.1, x.2.cs, endT x.2) = acc' ++ [(rg, x.2.cs, endT x.2)] → (∀ p ∈ acc', p ∈ acc) → acc'.length ≤ acc.length → forL (gTp 2 (gCn (gN 2) (gCn (gN 3) gNl))) p0_ranges (r.map rsD) [d0, Sl.own (acc'.map rwD ++ [.tup [rg.D, csD x.2.cs, (endT x.2).D]]), t2, t3, t4, t5] Q X z := fun rg acc' t2 t3 t4 t5 ef hs hl2 => by
      have e : acc'.map rwD ++ [.tup [rg.D, csD x.2.cs, (endT x.2).D]] = (acc' ++ [(rg, x.2.cs, endT x.2)]).map rwD := by simp [rwD]
      rw [e]
      refine ih _ _ _ _ _ Q X z (fun p hp => ho p (List.mem_cons_of_mem _ hp)) (fun p hp => ?_) (by simp; omega) fun t2 t3 t4 t5 => ?_
      · rcases List.mem_append.mp hp with hp | hp
        · exact hN p (hs p hp)
        · rw [List.mem_singleton.mp hp]; exact hx.2
      · have := h t2 t3 t4 t5
        rw [List.map_cons, List.foldl_cons, ef] at this
        exact this
    refine w_end_told x.2 hx.1 _ _ z ?_
    rw [eq_rows acc hN]
    rcases List.eq_nil_or_concat acc with rfl | ⟨ini, q, rfl⟩
    · simp
      exact go x.1 [] _ _ _ _ rfl (fun p hp => hp) (by simp)
    · rw [List.concat_eq_append] at hN hl go ⊢
      obtain ⟨q1, q2, q3⟩ := q
      have ec : D.lst (x.2.cs.map D.int) = csD x.2.cs := rfl
      have eq3 : ∀ T : Bool → Prop, dEqG (.tup [csD q2, q3.D]) (.tup [csD x.2.cs, (endT x.2).D]) T = T (decide ((q2, q3) = (x.2.cs, endT x.2))) := fun T => eq_tail (q2, q3) (x.2.cs, endT x.2) (hN (q1, q2, q3) (by simp)) hx.2 T
      have hL : ini.length + 1 + (r.length + 1) < 16777216 := by simpa using hl
      simp [rwD, ec]
      refine ⟨_, ⟨q1, q2, q3, ⟨rfl, rfl, rfl⟩, rfl⟩, ?_⟩
      have c1 : ∀ a b c : D, DL.cutD [a, b, c] (some 1) none = [b, c] := fun _ _ _ => rfl
      have c2 : ∀ a b c d : D, DL.cutD [a, b, c, d] none (some 2) = [a, b] := fun _ _ _ _ => rfl
      have c3 : ∀ a b c d : D, DL.cutD [a, b, c, d] (some 2) none = [c, d] := fun _ _ _ _ => rfl
      simp [c1]
      rw [eq3]
      simp [Rg.D, c2, c3]
      refine ⟨fun e1 e2 => ⟨by omega, ?_⟩, fun e => ⟨by omega, ?_⟩⟩
      · refine go ⟨q1.lo, q1.li, x.1.hi, x.1.hx⟩ ini _ _ _ _ ?_ (fun p hp => List.mem_append_left _ hp) (by simp)
        unfold fuse1
        simp [e1, e2]
      · have g := go x.1 (ini ++ [(q1, q2, q3)]) (Sl.fr (D.tup [prD x.fst.lo, D.bl x.fst.li, prD x.fst.hi, D.bl x.fst.hx])) (Sl.fr x.snd.D) (Sl.fr (csD x.snd.cs)) (Sl.fr (endT x.snd).D) (by
          unfold fuse1
          simp only [List.getLast?_append, List.getLast?_singleton, Option.some_or]
          rw [if_neg (by simpa using e)]) (fun p hp => hp) (Nat.le_refl _)
        simpa [rwD, Rg.D] using g
end LW

namespace LW
open PySem PySem.Spec PyProof.Rows L2 DL
theorem lc_led (d0 d1 d2 d3 d4 : Sl) : ∀ (l : List (Rg × St)) (acc : List D) (Q : List D → Rho → Zs → Prop) (X : Er → Rho → Zs → Prop) (z : Zs), acc.length + l.length < 16777216 →
    Q (acc ++ (l.map fun p => (p.1, fin p.2)).map rsD) [d0, d1, d2, d3, d4, Sl.no, Sl.no] z →
    lcL [5, 6] (gTp 2 (gCn (gN 5) (gCn (gN 6) gNl))) (ep true) p0_led_parts (l.map rsD) acc [d0, d1, d2, d3, d4, Sl.no, Sl.no] Q X z := by
  intro l
  induction l with
  | nil => intro acc Q X z _ h; simpa using h
  | cons x r ih =>
    intro acc Q X z hl h
    simp only [List.length_cons] at hl
    simp only [List.map_cons]
    rw [lcL_cons]
    simp [rsD]
    rw [p0_led_parts]
    simp
    have go : ∀ v : St, v = fin x.2 → lcL [5, 6] (gTp 2 (gCn (gN 5) (gCn (gN 6) gNl))) (ep true) p0_led_parts (r.map rsD) (acc ++ [.tup [x.1.D, .dic KS v.L]]) [d0, d1, d2, d3, d4, Sl.no, Sl.no] Q X z := fun v e => by
      subst e
      refine ih _ Q X z (by simp; omega) ?_
      simpa [rsD, St.D] using h
    have l0 : ∀ w : Wd, w.s.length ≤ 16777216 := fun w => by cases w <;> decide
    refine ⟨l0 _, ?_⟩
    simp only [wipeR, List.set_cons_zero, List.set_cons_succ]
    by_cases e : x.2.w = .on
    · rw [if_pos (by rw [e]; decide), u_word _ .done "done" rfl]
      exact ⟨by omega, go { x.2 with w := .done } (by unfold fin; rw [if_pos e])⟩
    · rw [if_neg (by revert e; cases x.2.w <;> decide), u_word _ x.2.w _ rfl]
      exact ⟨by omega, go { x.2 with w := x.2.w } (by unfold fin; rw [if_neg e])⟩
theorem RSOk.le {m k m' k' : Nat} {l : List (Rg × St)} (h : RSOk m k l) (hm : m ≤ m') (hk : k ≤ k') : RSOk m' k' l := fun q hq => ⟨(h q hq).1, (h q hq).2.mono hm hk⟩
theorem ledF_ok {K : Nat} (hK2 : 2 ≤ K) : ∀ (ds : List Dd) (i m k : Nat) (l : List (Rg × St)), (∀ d ∈ ds, d.Ok ∧ d.nu + 2 ≤ K) → K ^ ds.length * m < 2 ^ 60 → RSOk m k l → RSOk (K ^ ds.length * m) (k + ds.length) (ledF i ds l) := by
  intro ds
  induction ds with
  | nil => intro i m k l _ _ h; simpa [ledF] using h
  | cons d r ih =>
    intro i m k l hd hm ho
    have hd1 := hd d List.mem_cons_self
    simp only [List.length_cons] at hm ⊢
    have e : K ^ (r.length + 1) * m = K ^ r.length * (K * m) := by rw [← Nat.mul_assoc, ← Nat.pow_succ]
    rw [e] at hm ⊢
    have hm3 : K * m < 2 ^ 60 := Nat.lt_of_le_of_lt (Nat.le_mul_of_pos_left _ (Nat.pow_pos (by omega))) hm
    have := ih (i + 1) (K * m) (k + 1) (ledS i d l) (fun x hx => hd x (List.mem_cons_of_mem _ hx)) hm (ledS_ok i d hd1.1 hd1.2 hm3 l ho)
    exact this.le (Nat.le_refl _) (by omega)
/-- a script whose ranges can be told -/
structure Tel (K : Nat) (ds : List Dd) : Prop where
  k2 : 2 ≤ K
  hd : ∀ d ∈ ds, d.Ok ∧ d.nu + 2 ≤ K
  hm : K ^ ds.length < 2 ^ 60
  hl : ds.length < 900
  hr : ∀ j ≤ ds.length, (ledF 0 (ds.take j) [(ALL, st0)]).length < 16777216
theorem st0_ok : RSOk 1 0 [(ALL, st0)] := fun q hq => by
  rw [List.mem_singleton.mp hq]
  exact ⟨⟨⟨by decide, by decide⟩, ⟨by decide, by decide⟩⟩, ⟨⟨by decide, by decide⟩, ⟨by decide, by decide⟩, fun q hq => (nomatch hq), by decide, List.nodup_nil, by decide, by decide, fun q hq => (nomatch hq), fun a h => (nomatch h)⟩⟩
theorem w_led_parts {K : Nat} {ds : List Dd} (h : Tel K ds) (Q : List D → Zs → Prop) (X : Er → Zs → Prop) (z : Zs) (hq : Q ((led ds).map rsD) z) : m_led_parts [.lst (ds.map Dd.D)] Q X z := by
  rw [me_led_parts]
  simp [s_led_parts]
  refine w_first_state _ _ z ?_
  have e : [D.tup [D.tup [D.tup [D.int 0, D.int 1], D.bl false, D.tup [D.int 1, D.int 1], D.bl true], st0.D]] = [(ALL, st0)].map rsD := rfl
  rw [e]
  have hl := h.hl
  refine wl_led2 h.k2 _ ds 0 1 0 [(ALL, st0)] _ _ _ _ _ _ _ z h.hd (by simpa using h.hm) (by omega) st0_ok h.hr fun t2 t3 t4 t5 t6 => ?_
  simp
  simp only [wipeR, List.set_cons_zero, List.set_cons_succ]
  have := h.hr ds.length (Nat.le_refl _)
  rw [List.take_length] at this
  refine lc_led _ _ _ _ _ _ [] _ _ z (by simpa using this) ?_
  simpa [led] using hq
theorem led_nm {K : Nat} {ds : List Dd} (h : Tel K ds) : ∀ p ∈ led ds, p.2.w ≠ .on ∧ (endT p.2).Nm := by
  have o := ledF_ok h.k2 ds 0 1 0 [(ALL, st0)] h.hd (by simpa using h.hm) st0_ok
  intro p hp
  obtain ⟨q, hq, rfl⟩ := List.mem_map.mp hp
  have g := (o q hq).2
  refine ⟨?_, ?_⟩
  · simp only [fin]
    split
    · intro k; cases k
    · assumption
  · unfold endT
    split
    · exact g.wy
    · exact g.nm
theorem led_len {K : Nat} {ds : List Dd} (h : Tel K ds) : (led ds).length < 16777216 := by
  have := h.hr ds.length (Nat.le_refl _)
  rw [List.take_length] at this
  unfold led
  rw [List.length_map]; exact this
theorem w_ranges {K : Nat} {ds : List Dd} (h : Tel K ds) (Q : List D → Zs → Prop) (X : Er → Zs → Prop) (z : Zs) (hq : Q ((rangesL ds).map rwD) z) : m_ranges [scD ds] Q X z := by
  rw [me_ranges]
  simp [s_ranges]
  refine w_deeds ds _ _ z ?_
  refine w_led_parts h _ _ z ?_
  refine wl_ranges _ (led ds) [] _ _ _ _ _ _ z (led_nm h) (fun p hp => nomatch hp) (by simpa using led_len h) fun t2 t3 t4 t5 => ?_
  simpa [rangesL, fuse] using hq
end LW

namespace LW
open PySem PySem.Spec PyProof.Rows L2 DL
/-! texts of small letters -/
def sL (cs : List Nat) : Str := ⟨cs.toArray⟩
@[simp] theorem sL_tx (cs : List Nat) : (sL cs).cps.toList = cs := by simp [sL]
theorem sL_len (cs : List Nat) : (sL cs).length = cs.length := by
  show (sL cs).cps.size = _
  rw [← Array.length_toList, sL_tx]
theorem tx_ext {a b : Str} (h : a.cps.toList = b.cps.toList) : a = b := by
  cases a; cases b
  simp only at h
  congr
  exact Array.toList_inj.mp h
theorem sL_app (a b : List Nat) : sL a ++ sL b = sL (a ++ b) := by
  apply tx_ext
  show ((sL a).cps ++ (sL b).cps).toList = _
  simp
theorem sl_none (t : Str) (hi : Option Int) : Txt.slice t none hi = Txt.slice t (some 0) hi := by
  unfold Txt.slice
  have : Builtin.Str.strSliceIndices none hi 1 t.length = Builtin.Str.strSliceIndices (some 0) hi 1 t.length := by
    unfold Builtin.Str.strSliceIndices
    have h4 : max (0 : Int) (min 0 (t.length : Int)) = 0 := by omega
    simp [h4]
  rw [this]
theorem sl_big (t : Str) (n : Int) (h : (t.length : Int) ≤ n) : Txt.slice t (some 0) (some n) = Txt.slice t (some 0) (some (t.length : Int)) := by
  unfold Txt.slice
  have : Builtin.Str.strSliceIndices (some 0) (some n) 1 t.length = Builtin.Str.strSliceIndices (some 0) (some (t.length : Int)) 1 t.length := by
    unfold Builtin.Str.strSliceIndices
    have h1 : ¬ n < 0 := by omega
    have h2 : min n (t.length : Int) = t.length := by omega
    have h3 : ¬ (t.length : Int) < 0 := by omega
    simp [h1, h2, h3]
  rw [this]
theorem sl_hi (t : Str) (lo : Option Int) : Txt.slice t lo none = Txt.slice t lo (some (t.length : Int)) := by
  unfold Txt.slice
  have : Builtin.Str.strSliceIndices lo none 1 t.length = Builtin.Str.strSliceIndices lo (some (t.length : Int)) 1 t.length := by
    unfold Builtin.Str.strSliceIndices
    have h3 : ¬ (t.length : Int) < 0 := by omega
    simp [h3]
  rw [this]
theorem cut_nat {t : Str} {a b : Nat} (h1 : a ≤ b) (h2 : b ≤ t.length) : (Txt.slice t (some (a : Int)) (some (b : Int))).cps.toList = (t.cps.toList.drop a).take (b - a) := by
  have tl : t.length = t.cps.toList.length := Array.length_toList.symm
  have ix := StrLaws.strSliceIndices_plain h1 h2
  by_cases q : ((1 : Int) == 1 && (Builtin.Str.strSliceIndices (some (a : Int)) (some (b : Int)) 1 t.length).length == t.length) = true
  · have e : Txt.slice t (some (a : Int)) (some (b : Int)) = t := if_pos q
    rw [e]
    simp [ix] at q
    have a0 : a = 0 := by omega
    have bl : b - a = t.cps.toList.length := by omega
    rw [bl, a0, List.drop_zero, List.take_length]
  · have e := StrLaws.sliced_plain t h1 h2
    unfold Txt.slice
    rw [if_neg q]
    exact e
theorem slice_take (cs : List Nat) (n : Int) (h0 : 0 ≤ n) : Txt.slice (sL cs) none (some n) = sL (cs.take n.toNat) := by
  rw [sl_none]
  apply tx_ext
  rw [sL_tx]
  obtain ⟨k, rfl⟩ := Int.eq_ofNat_of_zero_le h0
  by_cases hk : k ≤ cs.length
  · have := cut_nat (t := sL cs) (a := 0) (b := k) (by omega) (by rw [sL_len]; exact hk)
    simpa using this
  · rw [sl_big _ _ (by rw [sL_len]; omega)]
    have := cut_nat (t := sL cs) (a := 0) (b := (sL cs).length) (by omega) (by omega)
    rw [sL_len] at this ⊢
    simp only [Int.natCast_zero, sL_tx, List.drop_zero, Nat.sub_zero, List.take_length] at this
    rw [List.take_of_length_le (by simp; omega)]
    exact this
theorem slice_drop (cs : List Nat) (n : Int) (h0 : 0 ≤ n) (h1 : n ≤ cs.length) : Txt.slice (sL cs) (some n) none = sL (cs.drop n.toNat) := by
  rw [sl_hi]
  apply tx_ext
  rw [sL_tx]
  obtain ⟨k, rfl⟩ := Int.eq_ofNat_of_zero_le h0
  have := cut_nat (t := sL cs) (a := k) (b := (sL cs).length) (by rw [sL_len]; omega) (by omega)
  rw [this, sL_tx, sL_len, List.take_of_length_le (by simp)]
  rfl
theorem glue_fold (cs : List Nat) : ∀ acc : Array Nat, ((cs.map fun c => (⟨#[c]⟩ : Str)).foldl (fun acc p => acc ++ ("" : Str).cps ++ p.cps) acc).toList = acc.toList ++ cs := by
  induction cs with
  | nil => intro acc; simp
  | cons c r ih =>
    intro acc
    simp only [List.map_cons, List.foldl_cons]
    rw [ih]
    have : ("" : Str).cps = #[] := by decide +kernel
    simp [this]
theorem join_one (cs : List Nat) : Txt.join "" (cs.map fun c => (⟨#[c]⟩ : Str)) = sL cs := by
  apply tx_ext
  rw [sL_tx]
  cases cs with
  | nil => decide +kernel
  | cons c r =>
    have := glue_fold r #[c]
    exact this
theorem strsOf_one (cs : List Nat) : strsOf (cs.map fun c => D.str ⟨#[c]⟩) = some (cs.map fun c => (⟨#[c]⟩ : Str)) := by
  induction cs with
  | nil => rfl
  | cons c r ih => simp only [List.map_cons, strsOf, ih]; rfl
theorem join_ok (cs : List Nat) (hl : cs.length ≤ 1000) (Q : D → Prop) (h : Q (.str (sL cs))) : dJoin "" (.lst (cs.map fun c => D.str ⟨#[c]⟩)) Q := by
  refine ⟨_, strsOf_one cs, ?_, by rw [join_one]; exact h⟩
  have e : ((cs.map fun c => (⟨#[c]⟩ : Str)).map (·.length)).sum = cs.length := by
    rw [List.map_map]
    clear hl h
    induction cs with
    | nil => rfl
    | cons c r ih => simp only [List.map_cons, List.sum_cons, List.length_cons, ih]; show 1 + _ = _; omega
  rw [e]
  have : ("" : Str).length = 0 := by decide +kernel
  rw [this]; omega
/-- small letters -/
def sm8 (cs : List Nat) : Prop := ∀ c ∈ cs, 97 ≤ c ∧ c ≤ 122
theorem nm_sL {cs : List Nat} (h : sm8 cs) (h1 : 1 ≤ cs.length) (h8 : cs.length ≤ 8) : nmOk (sL cs) := ⟨by rw [sL_tx]; exact h1, by rw [sL_tx]; exact h8, by rw [sL_tx]; exact h⟩
theorem let_cps : ("abcdefghijklmnopqrstuvwxyz" : Str).cps.toList = (List.range 26).map (97 + ·) := by decide +kernel
theorem let_ix (i : Int) (h0 : 0 ≤ i) (h1 : i < 26) (Q : D → Prop) (h : Q (.str ⟨#[97 + i.toNat]⟩)) : dIx (.str "abcdefghijklmnopqrstuvwxyz") (.int i) Q := by
  refine ⟨by decide +kernel, 97 + i.toNat, ?_, h⟩
  rw [let_cps]
  obtain ⟨k, rfl⟩ := Int.eq_ofNat_of_zero_le h0
  have hk : k < ((List.range 26).map (97 + ·)).length := by simp; omega
  have := atI_nat ((List.range 26).map (97 + ·)) k hk
  rw [this]
  simp
end LW

namespace LW
open PySem PySem.Spec PyProof.Rows L2 DL
@[simp] theorem fSlE_s (s : Str) (lo hi : Option Int) (ρ : Rho) (Q : D → Rho → Zs → Prop) (X : Er → Rho → Zs → Prop) (z : Zs) : fSlE (.str s) lo hi ρ Q X z = (s.length ≤ 16777216 ∧ Q (.str (Txt.slice s lo hi)) ρ z) := propext Iff.rfl
theorem dAdd_s (a b : Str) (Q : D → Prop) : dAdd (.str a) (.str b) Q = (a.length + b.length ≤ 16777216 ∧ Q (.str (a ++ b))) := propext Iff.rfl
theorem one_sL (c : Nat) : (⟨#[c]⟩ : Str) = sL [c] := rfl
theorem sL_self (a : Str) : sL a.cps.toList = a := by cases a; simp [sL]
theorem slice_mid (cs : List Nat) (a b : Nat) (h1 : a ≤ b) (h2 : b ≤ cs.length) : Txt.slice (sL cs) (some (a : Int)) (some (b : Int)) = sL ((cs.drop a).take (b - a)) := by
  apply tx_ext
  rw [cut_nat h1 (by rw [sL_len]; exact h2), sL_tx, sL_tx]
theorem sm8_take {cs : List Nat} (h : sm8 cs) (n : Nat) : sm8 (cs.take n) := fun c hc => h c (List.mem_of_mem_take hc)
theorem sm8_drop {cs : List Nat} (h : sm8 cs) (n : Nat) : sm8 (cs.drop n) := fun c hc => h c (List.mem_of_mem_drop hc)
theorem sm8_app {cs ds : List Nat} (h : sm8 cs) (k : sm8 ds) : sm8 (cs ++ ds) := fun c hc => (List.mem_append.mp hc).elim (h c) (k c)
theorem sm8_one {c : Nat} (h : 97 ≤ c ∧ c ≤ 122) : sm8 [c] := fun d hd => by rw [List.mem_singleton.mp hd]; exact h
theorem lc_rlets (s1 s2 s3 s4 s5 s7 s8 s9 s10 s11 s13 s14 : Sl) (cs : List MC) (pf : E D) (hp : ∀ (ρ : Rho) Q X z, pf ρ Q X z = (bO dIx (ePk 6) (eCall 2 2 0 m__law_rg_pick gL (aC (eVar 0) (aC (ep (.int 26)) aN)) aN)) ρ Q X z) : ∀ (n : Nat) (i : Int) (acc : List Nat) (m : Int) (Q : List D → Rho → Zs → Prop) (X : Er → Rho → Zs → Prop), acc.length + n ≤ 1000 → sm8 acc → m + n < 10 ^ 17 →
    (∀ (ls : List Nat) m', ls.length = acc.length + n → sm8 ls → m' ≤ m + n → Q (ls.map fun c => .str ⟨#[c]⟩) [Sl.fr .cel, s1, s2, s3, s4, s5, Sl.fr (.str "abcdefghijklmnopqrstuvwxyz"), s7, s8, s9, s10, s11, Sl.no, s13, s14] ⟨m', cs⟩) →
    lcL [12] (gN 12) (ep true) pf (rngD i n) (acc.map fun c => .str ⟨#[c]⟩) [Sl.fr .cel, s1, s2, s3, s4, s5, Sl.fr (.str "abcdefghijklmnopqrstuvwxyz"), s7, s8, s9, s10, s11, Sl.no, s13, s14] Q X ⟨m, cs⟩ := by
  intro n
  induction n with
  | zero => intro i acc m Q X _ sm _ h; simpa [rngD] using h acc m rfl sm (by omega)
  | succ n ih =>
    intro i acc m Q X hl sm hm h
    simp only [rngD]
    rw [lcL_cons]
    simp
    rw [hp]
    simp
    refine w__law_rg_pick 26 _ _ _ (by omega) (by omega) (by show m < _; omega) fun c m1 c0 c1 (hm1 : m1 ≤ m + 1) => ?_
    refine let_ix c c0 c1 _ ?_
    refine ⟨by omega, ?_⟩
    simp only [wipeR, List.set_cons_zero, List.set_cons_succ]
    have e : (acc.map fun c => D.str ⟨#[c]⟩) ++ [D.str ⟨#[97 + c.toNat]⟩] = (acc ++ [97 + c.toNat]).map fun c => D.str ⟨#[c]⟩ := by rw [List.map_append]; rfl
    rw [e]
    refine ih (i + 1) _ m1 Q X (by simp; omega) (fun x hx => ?_) (by omega) fun ls m' h1 h2 h3 => h ls m' (by simp at h1; omega) h2 (by omega)
    rcases List.mem_append.mp hx with h6 | h6
    · exact sm x h6
    · rw [List.mem_singleton.mp h6]; omega
theorem uniq_nd (l : List Str) (h : (uniq l).length = l.length) : l.Nodup := by
  have key : ∀ (l σ : List Str), σ.Nodup → (l.foldl stp σ).length = σ.length + l.length → (σ ++ l).Nodup := by
    intro l
    induction l with
    | nil => intro σ h _; simpa using h
    | cons a r ih =>
      intro σ hs hl
      have le : ∀ (l σ : List Str), (l.foldl stp σ).length ≤ σ.length + l.length := by
        intro l
        induction l with
        | nil => intro σ; simp
        | cons b r ih => intro σ; simp only [List.foldl_cons, List.length_cons]; have := ih (stp σ b); have := stp_le σ b; omega
      simp only [List.foldl_cons, List.length_cons] at hl
      by_cases e : a ∈ σ
      · have : stp σ a = σ := by unfold stp; rw [if_pos e]
        rw [this] at hl
        have := le r σ
        omega
      · have q : stp σ a = σ ++ [a] := by unfold stp; rw [if_neg e]
        rw [q] at hl
        have := ih (σ ++ [a]) (by rw [List.nodup_append]; exact ⟨hs, by simp, fun x hx y hy => by simp at hy; intro k; exact e (by rw [← hy, ← k]; exact hx)⟩) (by simp; omega)
        simpa using this
  have := key l [] List.nodup_nil (by simpa [uniq] using h)
  simpa using this
theorem strsOf_strs (ls : List Str) : strsOf (ls.map .str) = some ls := by
  induction ls with
  | nil => rfl
  | cons a r ih => simp only [List.map_cons, strsOf, ih]; rfl
theorem menu10 : [D.str "left", D.str "fill", D.str "gap", D.str "span", D.str "mark", D.str "rest", D.str "t", D.str "nothing", D.str "done", D.str "turn"] = ([[108, 101, 102, 116], [102, 105, 108, 108], [103, 97, 112], [115, 112, 97, 110], [109, 97, 114, 107], [114, 101, 115, 116], [116], [110, 111, 116, 104, 105, 110, 103], [100, 111, 110, 101], [116, 117, 114, 110]] : List (List Nat)).map fun w => D.str (sL w) := by
  simp only [List.map_cons, List.map_nil]
  congr
theorem menu10_sm : ∀ w ∈ ([[108, 101, 102, 116], [102, 105, 108, 108], [103, 97, 112], [115, 112, 97, 110], [109, 97, 114, 107], [114, 101, 115, 116], [116], [110, 111, 116, 104, 105, 110, 103], [100, 111, 110, 101], [116, 117, 114, 110]] : List (List Nat)), sm8 w ∧ 1 ≤ w.length ∧ w.length ≤ 8 := by unfold sm8; decide
/-- the words -/
theorem wl_rnames (nn : D) (stem : List Nat) (hs : stem.length = 8) (sm : sm8 stem) (w sz sp : Nat) (hw : w < 5) (hz5 : sz < 5) (hsp : sp < 8) (cs : List MC) : ∀ (k i : Nat) (acc : List Str) (t5 t10 t11 t13 t14 : Sl) (m : Int) (Q : Fl → Rho → Zs → Prop) (X : Er → Rho → Zs → Prop), i + k ≤ 4 → acc.length + k ≤ 100 → (∀ a ∈ acc, nmOk a) → m + 9 * k < 10 ^ 16 →
    (∀ (ls : List Str) t5 t10 t11 t13 t14 m', ls.length = acc.length + k → (∀ a ∈ ls, nmOk a) → m' ≤ m + 9 * k → Q .nx [Sl.fr .cel, Sl.fr nn, Sl.fr (.str (sL stem)), Sl.fr (.lst [D.str "left", D.str "fill", D.str "gap", D.str "span", D.str "mark", D.str "rest", D.str "t", D.str "nothing", D.str "done", D.str "turn"]), Sl.own (ls.map .str), t5, Sl.fr (.str "abcdefghijklmnopqrstuvwxyz"), Sl.fr (.int w), Sl.fr (.int sz), Sl.fr (.int sp), t10, t11, Sl.no, t13, t14] ⟨m', cs⟩) →
    forL (gN 5) p2__law_rg_names (rngD (i : Int) k) [Sl.fr .cel, Sl.fr nn, Sl.fr (.str (sL stem)), Sl.fr (.lst [D.str "left", D.str "fill", D.str "gap", D.str "span", D.str "mark", D.str "rest", D.str "t", D.str "nothing", D.str "done", D.str "turn"]), Sl.own (acc.map .str), t5, Sl.fr (.str "abcdefghijklmnopqrstuvwxyz"), Sl.fr (.int w), Sl.fr (.int sz), Sl.fr (.int sp), t10, t11, Sl.no, t13, t14] Q X ⟨m, cs⟩ := by
  intro k
  induction k with
  | zero => intro i acc t5 t10 t11 t13 t14 m Q X _ _ ha _ h; simpa [rngD] using h acc t5 t10 t11 t13 t14 m rfl ha (by omega)
  | succ k ih =>
    intro i acc t5 t10 t11 t13 t14 m Q X hi hl ha hm h
    have go : ∀ (b : Str) t10 t11 t13 t14 m', nmOk b → m' ≤ m + 9 → forL (gN 5) p2__law_rg_names (rngD ((i : Int) + 1) k) [Sl.fr .cel, Sl.fr nn, Sl.fr (.str (sL stem)), Sl.fr (.lst [D.str "left", D.str "fill", D.str "gap", D.str "span", D.str "mark", D.str "rest", D.str "t", D.str "nothing", D.str "done", D.str "turn"]), Sl.own (acc.map .str ++ [.str b]), Sl.fr (.int i), Sl.fr (.str "abcdefghijklmnopqrstuvwxyz"), Sl.fr (.int w), Sl.fr (.int sz), Sl.fr (.int sp), t10, t11, Sl.no, t13, t14] Q X ⟨m', cs⟩ := fun b t10 t11 t13 t14 m' hb hm' => by
      have e : acc.map D.str ++ [.str b] = (acc ++ [b]).map D.str := by simp
      rw [e]
      exact ih (i + 1) (acc ++ [b]) _ t10 t11 t13 t14 m' Q X (by omega) (by simp; omega) (fun a h1 => (List.mem_append.mp h1).elim (ha a) fun q => by rw [List.mem_singleton.mp q]; exact hb) (by omega) fun ls t5 t10 t11 t13 t14 m2 h1 h2 h3 => h ls t5 t10 t11 t13 t14 m2 (by simp at h1; omega) h2 (by omega)
    simp only [rngD, forL_cons]
    simp
    rw [p2__law_rg_names]
    have l26 : Nat.log2 26 < 9000 := by decide +kernel
    have l10 : Nat.log2 10 < 9000 := by decide +kernel
    have e1 : ((i : Int) * 9 + (sp : Int)).fmod 26 = (((i * 9 + sp) % 26 : Nat) : Int) := by rw [Int.fmod_eq_emod_of_nonneg _ (by omega)]; omega
    simp [e1, l26]
    refine ⟨mulC_r (by omega), let_ix _ (by omega) (by omega) _ ?_⟩
    generalize hc0 : 97 + (((i : Int) * 9 + (sp : Int)) % 26).toNat = c0
    have hc : 97 ≤ c0 ∧ c0 ≤ 122 := by omega
    have e10 : ((sp : Int) + 3 * (i : Int)).fmod 10 = (((sp + 3 * i) % 10 : Nat) : Int) := by rw [Int.fmod_eq_emod_of_nonneg _ (by omega)]; omega
    refine ⟨fun w0 => ⟨mulC_r (by omega), ?_⟩, fun w0 => ⟨fun w1 => ?_, fun w1 => ⟨fun w2 => ?_, fun w2 => ⟨fun w3 => ?_, fun w3 => ?_⟩⟩⟩⟩
    · rw [e10]
      have k := Nat.mod_lt (sp + 3 * i) (by omega : 10 > 0)
      generalize (sp + 3 * i) % 10 = j at k
      refine atI_all _ _ (by omega) (by simp; omega) _ fun d hd => ?_
      rw [menu10] at hd
      obtain ⟨w', hw', rfl⟩ := List.mem_map.mp hd
      have := menu10_sm w' hw'
      exact ⟨by omega, go _ _ _ _ _ m (nm_sL this.1 this.2.1 this.2.2) (by omega)⟩
    · rw [slice_take _ _ (by omega)]
      have l1 : (stem.take ((sz : Int) + 1 + (i : Int)).toNat).length = ((sz : Int) + 1 + (i : Int)).toNat := by rw [List.length_take]; omega
      exact ⟨by rw [sL_len]; omega, by omega, go _ _ _ _ _ m (nm_sL (sm8_take sm _) (by omega) (by omega)) (by omega)⟩
    · have ef : (sz : Int).fmod ((sp : Int) + 1) = ((sz % (sp + 1) : Nat) : Int) := by
        rw [Int.fmod_eq_emod_of_nonneg _ (by omega)]
        rfl
      have cl := Nat.mod_lt sz (by omega : sp + 1 > 0)
      rw [ef]
      generalize sz % (sp + 1) = c at cl
      have ec : (c : Int) + 1 = ((c + 1 : Nat) : Int) := rfl
      have es : (sp : Int) + 1 = ((sp + 1 : Nat) : Int) := rfl
      have sl : (sL stem).length = 8 := by rw [sL_len, hs]
      have l1 : (stem.take c).length = c := by rw [List.length_take]; omega
      have l2 : ((stem.drop (c + 1)).take (sp + 1 - (c + 1))).length = sp + 1 - (c + 1) := by rw [List.length_take, List.length_drop]; omega
      refine ⟨by omega, by omega, ?_⟩
      rw [slice_take _ _ (by omega), ec, es, slice_mid _ _ _ (by omega) (by omega), one_sL, dAdd_s, sL_app]
      simp only [Int.toNat_natCast]
      refine ⟨by simp only [sL_len]; simp; omega, by omega, ?_⟩
      rw [dAdd_s, sL_app]
      refine ⟨by simp only [sL_len]; simp; omega, by omega, ?_⟩
      exact go _ _ _ _ _ m (nm_sL (sm8_app (sm8_app (sm8_take sm _) (sm8_one hc)) (sm8_take (sm8_drop sm _) _)) (by simp only [List.length_append, l1, l2, List.length_cons, List.length_nil]; omega) (by simp only [List.length_append, l1, l2, List.length_cons, List.length_nil]; omega)) (by omega)
    · have sl : (sL stem).length = 8 := by rw [sL_len, hs]
      have l1 : (stem.take ((sz : Int) + 1).toNat).length = ((sz : Int) + 1).toNat := by rw [List.length_take]; omega
      rw [slice_take _ _ (by omega)]
      have sms := sm8_take sm ((sz : Int) + 1).toNat
      generalize stem.take ((sz : Int) + 1).toNat = st at l1 sms ⊢
      have f2 := fmod_b (i : Int) (b := 2) (by omega)
      have fx : 0 ≤ (if 1 + (i : Int).fmod 2 < (i : Int) then 1 + (i : Int).fmod 2 else (i : Int)) ∧ (if 1 + (i : Int).fmod 2 < (i : Int) then 1 + (i : Int).fmod 2 else (i : Int)) < 3 := by split <;> omega
      generalize (if 1 + (i : Int).fmod 2 < (i : Int) then 1 + (i : Int).fmod 2 else (i : Int)) = x at fx ⊢
      refine ⟨by omega, ?_⟩
      rw [one_sL, dAdd_s, sL_app]
      refine ⟨by simp only [sL_len, List.length_cons, List.length_nil]; omega, ?_⟩
      rw [dAdd_s, sL_app]
      refine ⟨by simp only [sL_len, List.length_cons, List.length_nil]; omega, ?_⟩
      refine atI_all _ _ fx.1 (by simp; omega) _ fun d hd => ?_
      simp at hd
      rcases hd with rfl | rfl | rfl
      · exact ⟨by omega, go _ _ _ _ _ m (nm_sL sms (by omega) (by omega)) (by omega)⟩
      · exact ⟨by omega, go _ _ _ _ _ m (nm_sL (cs := c0 :: st) (fun c hx => (List.mem_cons.mp hx).elim (fun e => by rw [e]; exact hc) (sms c)) (by simp) (by simp only [List.length_cons]; omega)) (by omega)⟩
      · exact ⟨by omega, go _ _ _ _ _ m (nm_sL (sm8_app sms (sm8_one hc)) (by simp only [List.length_append, List.length_cons, List.length_nil]; omega) (by simp only [List.length_append, List.length_cons, List.length_nil]; omega)) (by omega)⟩
    · refine w__law_rg_pick 8 _ _ _ (by omega) (by omega) (by show m < _; omega) fun c m1 h0 h1 (hm1 : m1 ≤ m + 1) => ?_
      simp
      simp only [wipeR, List.set_cons_zero, List.set_cons_succ]
      refine ⟨⟨by omega, by omega⟩, ?_⟩
      refine lc_rlets _ _ _ _ _ _ _ _ _ _ _ _ cs p1__law_rg_names (fun _ _ _ _ => rfl) (1 + c).toNat 0 [] m1 _ _ (by simp; omega) (fun _ h => nomatch h) (by omega) fun ls m' g1 g2 g3 => ?_
      simp at g1
      refine join_ok ls (by omega) _ ?_
      simp
      exact ⟨by omega, go _ _ _ _ _ m' (nm_sL g2 (by omega) (by omega)) (by omega)⟩
end LW

namespace LW
open PySem PySem.Spec PyProof.Rows L2 DL
def fN (stem : List Nat) (i : Nat) : Str := sL (stem.take 7 ++ [97 + i])
theorem lc_fall (stem : List Nat) (hs : stem.length = 8) (s0 s1 s3 s4 s7 s8 s9 s10 s11 s12 s13 s14 : Sl) (z : Zs) : ∀ (k i : Nat) (acc : List Str) (Q : List D → Rho → Zs → Prop) (X : Er → Rho → Zs → Prop), i + k ≤ 4 → acc.length + k ≤ 1000 →
    Q ((acc ++ (List.range' i k).map (fN stem)).map .str) [s0, s1, Sl.fr (.str (sL stem)), s3, s4, Sl.no, Sl.fr (.str "abcdefghijklmnopqrstuvwxyz"), s7, s8, s9, s10, s11, s12, s13, s14] z →
    lcL [5] (gN 5) (ep true) p0__law_rg_names (rngD (i : Int) k) (acc.map .str) [s0, s1, Sl.fr (.str (sL stem)), s3, s4, Sl.no, Sl.fr (.str "abcdefghijklmnopqrstuvwxyz"), s7, s8, s9, s10, s11, s12, s13, s14] Q X z := by
  intro k
  induction k with
  | zero => intro i acc Q X _ _ h; simpa [rngD] using h
  | succ k ih =>
    intro i acc Q X hi hl h
    simp only [rngD]
    rw [lcL_cons]
    simp
    rw [p0__law_rg_names]
    simp
    rw [slice_take _ _ (by omega)]
    refine ⟨by rw [sL_len]; omega, let_ix _ (by omega) (by omega) _ ?_⟩
    rw [one_sL, dAdd_s, sL_app]
    refine ⟨by simp only [sL_len, List.length_take, List.length_cons, List.length_nil]; omega, by omega, ?_⟩
    simp only [wipeR, List.set_cons_zero, List.set_cons_succ]
    have e : acc.map D.str ++ [D.str (sL (stem.take (7 : Int).toNat ++ [97 + ((i : Nat) : Int).toNat]))] = (acc ++ [fN stem i]).map .str := by simp [fN]
    rw [e]
    refine ih (i + 1) _ Q X (by omega) (by simp; omega) ?_
    rw [List.range'_succ, List.map_cons] at h
    simpa using h
theorem fN_inj (stem : List Nat) {i j : Nat} (h : fN stem i = fN stem j) : i = j := by
  have := congrArg (fun s : Str => s.cps.toList) h
  simp only [fN, sL_tx, List.append_cancel_left_eq, List.cons.injEq, and_true] at this
  omega
theorem fN_nd (stem : List Nat) (n : Nat) : ((List.range' 0 n).map (fN stem)).Nodup := by
  unfold List.Nodup
  rw [List.pairwise_map]
  exact (List.nodup_range' (step := 1)).imp fun h e => h (fN_inj stem e)
theorem fN_nm {stem : List Nat} (hs : stem.length = 8) (sm : sm8 stem) {i : Nat} (hi : i < 26) : nmOk (fN stem i) := by
  have l1 : (stem.take 7).length = 7 := by rw [List.length_take]; omega
  exact nm_sL (sm8_app (sm8_take sm _) (sm8_one (by omega))) (by simp only [List.length_append, l1, List.length_cons, List.length_nil]; omega) (by simp only [List.length_append, l1, List.length_cons, List.length_nil]; omega)
theorem uniq_le (ls : List Str) : (uniq ls).length ≤ ls.length := by
  have le : ∀ (l σ : List Str), (l.foldl stp σ).length ≤ σ.length + l.length := by
    intro l
    induction l with
    | nil => intro σ; simp
    | cons b r ih => intro σ; simp only [List.foldl_cons, List.length_cons]; have := ih (stp σ b); have := stp_le σ b; omega
  simpa [uniq] using le ls []
theorem w__law_rg_names (n : Nat) (n4 : n ≤ 4) (m : Int) (cs : List MC) (hm : m < 10 ^ 15) (Q : List D → Zs → Prop) (X : Er → Zs → Prop)
    (h : ∀ (ls : List Str) m', ls.length = n → (∀ a ∈ ls, nmOk a) → ls.Nodup → m' ≤ m + 60 → Q (ls.map .str) ⟨m', cs⟩) : m__law_rg_names [.cel, .int n] Q X ⟨m, cs⟩ := by
  rw [me__law_rg_names]
  simp [s__law_rg_names]
  refine w__law_rg_pick 5 _ _ _ (by omega) (by omega) (by show m < _; omega) fun w m1 h0 h1 (hm1 : m1 ≤ m + 1) => ?_
  obtain ⟨w, rfl⟩ : ∃ v : Nat, w = (v : Int) := ⟨w.toNat, by omega⟩
  simp
  simp only [wipeR, List.set_cons_zero, List.set_cons_succ]
  refine lc_rlets _ _ _ _ _ _ _ _ _ _ _ _ cs p3__law_rg_names (fun _ _ _ _ => rfl) 8 0 [] m1 _ _ (by simp) (fun _ h => nomatch h) (by omega) fun stem m2 g1 g2 (g3 : m2 ≤ m1 + 8) => ?_
  simp at g1
  refine join_ok stem (by omega) _ ?_
  simp
  refine w__law_rg_pick 5 _ _ _ (by omega) (by omega) (by show m2 < _; omega) fun sz m3 z0 z1 (hm3 : m3 ≤ m2 + 1) => ?_
  obtain ⟨sz, rfl⟩ : ∃ v : Nat, sz = (v : Int) := ⟨sz.toNat, by omega⟩
  refine w__law_rg_pick 8 _ _ _ (by omega) (by omega) (by show m3 < _; omega) fun sp m4 s0 s1 (hm4 : m4 ≤ m3 + 1) => ?_
  obtain ⟨sp, rfl⟩ : ∃ v : Nat, sp = (v : Int) := ⟨sp.toNat, by omega⟩
  simp
  refine ⟨by omega, ?_⟩
  refine wl_rnames _ stem g1 g2 w sz sp (by omega) (by omega) (by omega) cs n 0 [] _ _ _ _ _ m4 _ _ (by omega) (by simp; omega) (fun _ h => nomatch h) (by omega) fun ls t5 t10 t11 t13 t14 m5 k1 k2 k3 => ?_
  simp at k1
  refine ⟨ls, strsOf_strs ls, by omega, ?_⟩
  simp
  refine ⟨fun e => ⟨by omega, ?_⟩, fun e => ?_⟩
  · simp only [wipeR, List.set_cons_zero, List.set_cons_succ]
    refine lc_fall stem g1 _ _ _ _ _ _ _ _ _ _ _ _ _ n 0 [] _ _ (by omega) (by simp; omega) ?_
    rw [List.nil_append]
    refine h _ m5 (by simp) (fun a ha => ?_) (fN_nd stem n) (by omega)
    obtain ⟨j, hj, rfl⟩ := List.mem_map.mp ha
    have := List.mem_range'.mp hj
    exact fN_nm g1 g2 (by omega)
  · have le := uniq_le ls
    exact h ls m5 k1 k2 (uniq_nd ls (by omega)) (by omega)
end LW

namespace LW
open PySem PySem.Spec PyProof.Rows L2 DL
/-! rows that can be shown -/
theorem okSL_map {α : Type} (f : α → D) (c b : Nat) : ∀ l : List α, (∀ x ∈ l, (f x).okS ∧ (f x).dep ≤ c ∧ (f x).blk ≤ b) → okSL (l.map f) ∧ depL (l.map f) ≤ c ∧ blkL (l.map f) ≤ (b + 1) * l.length := by
  intro l
  induction l with
  | nil => intro _; exact ⟨trivial, by simp [depL], by simp [blkL]⟩
  | cons x r ih =>
    intro h
    obtain ⟨h1, h2, h3⟩ := ih fun y hy => h y (List.mem_cons_of_mem _ hy)
    obtain ⟨k1, k2, k3⟩ := h x List.mem_cons_self
    refine ⟨⟨k1, h1⟩, ?_, ?_⟩
    · simp only [List.map_cons, depL]; omega
    · simp only [List.map_cons, blkL, List.length_cons, Nat.mul_add, Nat.mul_one]; omega
theorem nm_okS {a : Str} (h : nmOk a) : (D.str a).okS ∧ (D.str a).blk ≤ 8 := by
  refine ⟨fun c hc => ?_, ?_⟩
  · have := h.2.2 c hc; omega
  · have := h.2.1
    simpa [D.blk] using this
structure RwSm (k : Nat) (p : Rw) : Prop where
  r : p.1.sm
  c : ∀ x ∈ p.2.1, x.natAbs < 2 ^ 60
  cl : p.2.1.length ≤ k
  e : match p.2.2 with
    | .bad i y => i.natAbs < 2 ^ 60 ∧ ∀ a, y = .unm a → nmOk a
    | .ok _ f g ps => sm f ∧ sm g ∧ (∀ q ∈ ps, nmOk q.1 ∧ sm q.2) ∧ ps.length ≤ k
theorem prD_okS {p : Int × Int} (h : sm p) : (prD p).okS ∧ (prD p).dep = 1 ∧ (prD p).blk = 2 := by
  have h1 := h.1
  have h2 := h.2
  refine ⟨⟨?_, ?_, trivial⟩, by simp [prD, D.dep, depL], by simp [prD, D.blk, blkL]⟩
  · show p.1.natAbs < 2 ^ 200; omega
  · show p.2.natAbs < 2 ^ 200; omega
theorem rg_okS {r : Rg} (h : r.sm) : r.D.okS ∧ r.D.dep = 2 ∧ r.D.blk = 8 := by
  obtain ⟨a1, a2, a3⟩ := prD_okS h.1
  obtain ⟨b1, b2, b3⟩ := prD_okS h.2
  exact ⟨⟨a1, trivial, b1, trivial, trivial⟩, by simp [Rg.D, D.dep, depL, a2, b2], by simp [Rg.D, D.blk, blkL, a3, b3]⟩
theorem why_okS {y : Why} (h : ∀ a, y = .unm a → nmOk a) : y.D.okS ∧ y.D.dep ≤ 1 ∧ y.D.blk ≤ 18 := by
  have s : ∀ w : Str, nmOk w → (D.str w).okS ∧ (D.str w).dep ≤ 1 ∧ (D.str w).blk ≤ 18 := fun w hw => ⟨(nm_okS hw).1, by simp [D.dep], by have := (nm_okS hw).2; omega⟩
  cases y with
  | no => exact ⟨fun c hc => (by cases hc), by simp [Why.D, D.dep], by decide +kernel⟩
  | beyond => exact s "beyond" ⟨by decide +kernel, by decide +kernel, by decide +kernel⟩
  | nothing => exact s "nothing" ⟨by decide +kernel, by decide +kernel, by decide +kernel⟩
  | unm a =>
    have k : nmOk "unmarked" := ⟨by decide +kernel, by decide +kernel, by decide +kernel⟩
    obtain ⟨h1, h2⟩ := nm_okS k
    obtain ⟨g1, g2⟩ := nm_okS (h a rfl)
    refine ⟨⟨h1, g1, trivial⟩, by simp [Why.D, D.dep, depL], ?_⟩
    simp only [Why.D, D.blk, blkL] at h2 g2 ⊢; omega
theorem rw_okS {k : Nat} {p : Rw} (h : RwSm k p) : (rwD p).okS ∧ (rwD p).dep ≤ 5 ∧ (rwD p).blk ≤ 60 + 14 * k := by
  obtain ⟨r1, r2, r3⟩ := rg_okS h.r
  obtain ⟨c1, c2, c3⟩ := okSL_map D.int 0 0 p.2.1 fun x hx => ⟨by have := h.c x hx; show x.natAbs < 2 ^ 200; omega, by simp [D.dep], by simp [D.blk]⟩
  have cl := h.cl
  have he : p.2.2.D.okS ∧ p.2.2.D.dep ≤ 4 ∧ p.2.2.D.blk ≤ 40 + 13 * k := by
    have e := h.e
    cases q : p.2.2 with
    | bad i y =>
      rw [q] at e
      obtain ⟨y1, y2, y3⟩ := why_okS e.2
      obtain ⟨f1, f2⟩ := nm_okS (a := "failed") ⟨by decide +kernel, by decide +kernel, by decide +kernel⟩
      refine ⟨⟨f1, by have := e.1; show i.natAbs < 2 ^ 200; omega, y1, trivial⟩, ?_, ?_⟩
      · simp only [En.D, D.dep, depL]; omega
      · simp only [En.D, D.blk, blkL] at f2 ⊢; omega
    | ok o f g ps =>
      rw [q] at e
      obtain ⟨e1, e2, e3, e4⟩ := e
      obtain ⟨a1, a2, a3⟩ := prD_okS e1
      obtain ⟨b1, b2, b3⟩ := prD_okS e2
      obtain ⟨m1, m2, m3⟩ := okSL_map prM 2 12 ps fun q hq => by
        obtain ⟨s1, s2⟩ := nm_okS (e3 q hq).1
        obtain ⟨t1, t2, t3⟩ := prD_okS (e3 q hq).2
        refine ⟨⟨s1, t1, trivial⟩, ?_, ?_⟩
        · simp only [prM, D.dep, depL, t2]; omega
        · simp only [prM, D.blk, blkL, t3] at s2 ⊢; omega
      have w : ∀ w : Str, nmOk w → (D.tup [.str w, prD f, prD g, .lst (ps.map prM)]).okS ∧ (D.tup [.str w, prD f, prD g, .lst (ps.map prM)]).dep ≤ 4 ∧ (D.tup [.str w, prD f, prD g, .lst (ps.map prM)]).blk ≤ 40 + 13 * k := fun w hw => by
        obtain ⟨f1, f2⟩ := nm_okS hw
        refine ⟨⟨f1, a1, b1, m1, trivial⟩, ?_, ?_⟩
        · simp only [D.dep, depL, a2, b2]; omega
        · simp only [D.blk, blkL, a3, b3] at f2 ⊢; omega
      cases o
      · exact w "done" ⟨by decide +kernel, by decide +kernel, by decide +kernel⟩
      · exact w "over" ⟨by decide +kernel, by decide +kernel, by decide +kernel⟩
  obtain ⟨e1, e2, e3⟩ := he
  refine ⟨⟨r1, c1, e1, trivial⟩, ?_, ?_⟩
  · simp only [rwD, csD, D.dep, depL, r2]; omega
  · simp only [rwD, csD, D.blk, blkL, r3]; omega
theorem rows_ok {k : Nat} {l : List Rw} (h : ∀ p ∈ l, RwSm k p) (hk : (61 + 14 * k) * l.length ≤ 80000) : reprOk (.lst (l.map rwD)) := by
  obtain ⟨a1, a2, a3⟩ := okSL_map rwD 5 (60 + 14 * k) l fun p hp => rw_okS (h p hp)
  refine reprOk_of a1 ?_ ?_
  · simp only [D.dep]; omega
  · simp only [D.blk]; 
    have : (60 + 14 * k + 1) * l.length = (61 + 14 * k) * l.length := by congr 1; omega
    omega
end LW

namespace LW
open PySem PySem.Spec PyProof.Rows L2 DL
/-! ## k19: one fill, or steps -/
def fmF (n : Int) (rw : Bool) : Fm := if rw = true then (0, n) else (1, -n)
def gLs (ls : List Str) (f : Fm) : List (Str × Fm) := ls.map fun a => (a, f)
def okR (r : Rg) (cs : List Int) (n : Int) (rw : Bool) (g : Fm → List (Str × Fm)) : Rw := (r, cs, .ok false (0, 1) (fmF n rw) (g (fmF n rw)))
def lowR (n : Int) : Rg := ⟨(0, 1), false, (1, n), true⟩
def betR (c : Int) : Rg := ⟨(1, c + 1), false, (1, c), true⟩
def moreL (n : Int) (rw : Bool) (g : Fm → List (Str × Fm)) : Nat → Nat → List Rw
  | _, 0 => []
  | i, k + 1 => okR (betR (n - i)) [n - i] (n - i) rw g :: moreL n rw g (i + 1) k
def dueL (st : Bool) (n : Nat) (rw : Bool) (g : Fm → List (Str × Fm)) : List Rw :=
  if st = true then okR (lowR n) [] n rw g :: (if 1 < n then [(⟨(1, n), false, (1, 1), true⟩, [], .bad (if rw = true then 0 else 1) .beyond)] else [])
  else okR (lowR n) [n] n rw g :: moreL n rw g 1 (n - 1)
theorem w__law_rg_row (r : Rg) (cs : List Int) (n : Int) (rw : Bool) (ls : List Str) (hl : ls.length ≤ 10) (Q : D → Zs → Prop) (X : Er → Zs → Prop) (z : Zs) (hq : Q (rwD (okR r cs n rw (gLs ls))) z) : m__law_rg_row [r.D, csD cs, .int n, .bl rw, .lst (ls.map .str)] Q X z := by
  rw [me__law_rg_row]
  have go : ∀ fd : Fm, fd = fmF n rw → lcL [6] (gN 6) (ep true) p0__law_rg_row (ls.map .str) [] [Sl.fr r.D, Sl.fr (csD cs), Sl.fr (.int n), Sl.fr (.bl rw), Sl.fr (.lst (ls.map .str)), Sl.fr (prD fd), Sl.no] (fun ds ρ' z' => Q (.tup [r.D, csD cs, .tup [.str "done", .tup [.int 0, .int 1], prD fd, .lst ds]]) z') (fun e ρ z => X e z) z := fun fd e => by
    subst e
    refine lc_run 6 _ D.str (fun a => prM (a, fmF n rw)) (fun d => rfl) _ z ls [] _ _ (fun a ha Q' hQ => ?_) (by simp; omega) ?_
    · rw [p0__law_rg_row]
      simp
      exact hQ
    · have e : ls.map (fun a => prM (a, fmF n rw)) = (ls.map fun a => (a, fmF n rw)).map prM := by rw [List.map_map]; rfl
      simp only [List.nil_append, e]
      exact hq
  simp [s__law_rg_row]
  exact ⟨fun e => go (0, n) (by simp [fmF, e]), fun e => go (1, -n) (by simp [fmF, e])⟩
theorem wl_rows (n : Nat) (hn : n ≤ 9) (rw : Bool) (ls : List Str) (hl : ls.length ≤ 10) (d0 d4 : Sl) : ∀ (k i : Nat) (acc : List Rw) (t6 t7 t8 : Sl) (Q : Fl → Rho → Zs → Prop) (X : Er → Rho → Zs → Prop) (z : Zs), i + k = n → 1 ≤ i → acc.length ≤ i →
    (∀ t6 t7 t8, Q .nx [d0, Sl.fr (.int n), Sl.fr (.bl rw), Sl.fr (.lst (ls.map .str)), d4, Sl.own ((acc ++ moreL n rw (gLs ls) i k).map rwD), t6, t7, t8] z) →
    forL (gN 6) p0__law_rg_rows (rngD (i : Int) k) [d0, Sl.fr (.int n), Sl.fr (.bl rw), Sl.fr (.lst (ls.map .str)), d4, Sl.own (acc.map rwD), t6, t7, t8] Q X z := by
  intro k
  induction k with
  | zero => intro i acc t6 t7 t8 Q X z _ _ _ h; simpa [rngD, moreL] using h t6 t7 t8
  | succ k ih =>
    intro i acc t6 t7 t8 Q X z hi h1 ha h
    simp only [rngD, forL_cons]
    simp
    rw [p0__law_rg_rows]
    simp
    refine w__law_rg_row (betR (n - i)) [(n : Int) - i] (n - i) rw ls hl _ _ z ?_
    refine ⟨by omega, ?_⟩
    have e : acc.map rwD ++ [rwD (okR (betR (n - i)) [(n : Int) - i] (n - i) rw (gLs ls))] = (acc ++ [okR (betR (n - i)) [(n : Int) - i] (n - i) rw (gLs ls)]).map rwD := by simp
    rw [e]
    refine ih (i + 1) _ _ _ _ Q X z (by omega) (by omega) (by simp; omega) fun t6 t7 t8 => ?_
    have := h t6 t7 t8
    rw [moreL] at this
    simpa using this
theorem w__law_rg_rows (st : Bool) (n : Nat) (h1 : 1 ≤ n) (hn : n ≤ 9) (rw : Bool) (ls : List Str) (hl : ls.length ≤ 10) (Q : List D → Zs → Prop) (X : Er → Zs → Prop) (z : Zs) (hq : Q ((dueL st n rw (gLs ls)).map rwD) z) : m__law_rg_rows [.str (if st = true then "steps" else "fill"), .int n, .bl rw, .lst (ls.map .str)] Q X z := by
  rw [me__law_rg_rows]
  have a1 : ¬ (("fill" : Str) = "steps") := by decide
  cases st with
  | true =>
    simp [s__law_rg_rows]
    refine w__law_rg_row (lowR n) [] n rw ls hl _ _ z ?_
    unfold dueL at hq
    refine ⟨fun e => ?_, fun e => ?_⟩
    · rw [if_pos rfl, if_pos (by omega)] at hq
      cases rw <;> simpa [rwD, csD, Rg.D, En.D, Why.D, prD] using hq
    · rw [if_pos rfl, if_neg (by omega)] at hq
      simpa using hq
  | false =>
    simp [s__law_rg_rows, a1]
    refine w__law_rg_row (lowR n) [(n : Int)] n rw ls hl _ _ z ?_
    refine ⟨by omega, ?_⟩
    refine wl_rows n hn rw ls hl _ _ (n - 1) 1 [okR (lowR n) [(n : Int)] n rw (gLs ls)] _ _ _ _ _ z (by omega) (by omega) (by simp) fun t6 t7 t8 => ?_
    unfold dueL at hq
    rw [if_neg (by simp)] at hq
    simpa using hq
/-- the script -/
def dsF (st : Bool) (n : Nat) (rw : Bool) (ls : List Str) : List Dd := ((if rw = true then [] else [Dd.right]) ++ [if st = true then .steps n else .fill n]) ++ ls.map .mark
theorem insP_one (a : Str) (f : Fm) : insP [] a f = [(a, f)] := by simp [insP]
theorem rg_due0 : ∀ st rw : Bool, ∀ n ∈ [1, 2, 3, 4, 5], rangesL (dsF st n rw []) = dueL st n rw (gLs []) := by decide +kernel
theorem rg_due1 (a : Str) : ∀ st rw : Bool, ∀ n ∈ [1, 2, 3, 4, 5], rangesL (dsF st n rw [a]) = dueL st n rw (fun f => insP [] a f) := by
  intro st rw n hn
  simp only [List.mem_cons, List.not_mem_nil, or_false] at hn
  rcases hn with rfl | rfl | rfl | rfl | rfl <;> cases st <;> cases rw <;> kernel_rfl
theorem rg_due (ls : List Str) (hl : ls.length ≤ 1) (st rw : Bool) (n : Nat) (h1 : 1 ≤ n) (h5 : n ≤ 5) : rangesL (dsF st n rw ls) = dueL st n rw (gLs ls) := by
  have hn : n ∈ [1, 2, 3, 4, 5] := by simp; omega
  match ls, hl with
  | [], _ => exact rg_due0 st rw n hn
  | [a], _ =>
    rw [rg_due1 a st rw n hn]
    have : (fun f => insP [] a f) = gLs [a] := by funext f; rw [insP_one]; rfl
    rw [this]
end LW

namespace LW
open PySem PySem.Spec PyProof.Rows L2 DL
theorem due_ok (st : Bool) (n : Nat) (h1 : 1 ≤ n) (h5 : n ≤ 5) (rw : Bool) (ls : List Str) (hl : ls.length ≤ 1) (hn : ∀ a ∈ ls, nmOk a) : reprOk (.lst ((dueL st n rw (gLs ls)).map rwD)) := by
  have g : ∀ (r : Rg) (cs : List Int) (m : Int), r.sm → (∀ x ∈ cs, x.natAbs < 2 ^ 60) → cs.length ≤ 1 → m.natAbs < 2 ^ 59 → RwSm 1 (okR r cs m rw (gLs ls)) := fun r cs m h1 h2 h3 h4 => by
    have fs : sm (fmF m rw) := by
      unfold fmF sm
      cases rw <;> simp <;> omega
    refine ⟨h1, h2, h3, ?_⟩
    refine ⟨⟨by decide, by decide⟩, fs, fun q hq => ?_, by simpa [gLs] using hl⟩
    obtain ⟨a, ha, rfl⟩ := List.mem_map.mp hq
    exact ⟨hn a ha, fs⟩
  have ml : ∀ k i : Nat, i + k ≤ 9 → ∀ p ∈ moreL n rw (gLs ls) i k, RwSm 1 p := by
    intro k
    induction k with
    | zero => intro i _ p hp; cases hp
    | succ k ih =>
      intro i hi p hp
      rw [moreL] at hp
      rcases List.mem_cons.mp hp with rfl | hp
      · refine g _ _ _ ⟨⟨?_, ?_⟩, ⟨?_, ?_⟩⟩ (fun x hx => ?_) (by simp) (by omega)
        · show (1 : Int).natAbs < 2 ^ 60; decide
        · show ((n : Int) - i + 1).natAbs < 2 ^ 60; omega
        · show (1 : Int).natAbs < 2 ^ 60; decide
        · show ((n : Int) - i).natAbs < 2 ^ 60; omega
        · rw [List.mem_singleton.mp hx]; omega
      · exact ih (i + 1) (by omega) p hp
  have len : ∀ k i : Nat, (moreL n rw (gLs ls) i k).length = k := by
    intro k
    induction k with
    | zero => intro i; rfl
    | succ k ih => intro i; rw [moreL, List.length_cons, ih]
  have d0 : (0 : Int).natAbs < 2 ^ 60 := by decide
  have d1 : (1 : Int).natAbs < 2 ^ 60 := by decide
  have lo : (lowR n).sm := ⟨⟨d0, d1⟩, ⟨d1, by show (n : Int).natAbs < 2 ^ 60; omega⟩⟩
  refine rows_ok (k := 1) (fun p hp => ?_) ?_
  · unfold dueL at hp
    split at hp
    · rcases List.mem_cons.mp hp with rfl | hp
      · exact g _ _ _ lo (fun x hx => nomatch hx) (by simp) (by omega)
      · split at hp
        · rw [List.mem_singleton.mp hp]
          refine ⟨⟨⟨d1, by show (n : Int).natAbs < 2 ^ 60; omega⟩, ⟨d1, d1⟩⟩, fun x hx => (nomatch hx), by simp, ?_⟩
          refine ⟨?_, fun a h => nomatch h⟩
          cases rw <;> decide
        · cases hp
    · rcases List.mem_cons.mp hp with rfl | hp
      · exact g _ _ _ lo (fun x hx => by rw [List.mem_singleton.mp hx]; omega) (by simp) (by omega)
      · exact ml _ _ (by omega) p hp
  · have : (dueL st n rw (gLs ls)).length ≤ 10 := by
      unfold dueL
      split
      · split <;> simp
      · rw [List.length_cons, len]; omega
    omega
theorem fillL_len (s : St) : ∀ (i : Nat) (c : Int) (r : Rg) (a b : List (Rg × St)), (fillL s i c r a b).length ≤ a.length + b.length + 4 * i + 1 := by
  intro i
  induction i with
  | zero => intro c r a b; simp [fillL]; omega
  | succ i ih =>
    intro c r a b
    have F := fold_len s c (atL r (pls (gapf s) s.spr (-(c + 1)))) (a, b, none)
    have L := atL_len r (pls (gapf s) s.spr (-(c + 1)))
    unfold fillL
    rcases e : (atL r (pls (gapf s) s.spr (-(c + 1)))).foldl (fillT s c) (a, b, none) with ⟨a', b', m'⟩
    rw [e] at F
    simp only at F
    cases m' with
    | none => simp; omega
    | some y =>
      have := ih (c + 1) y a' b'
      simp only
      omega
theorem aDeed_len (r : Rg) (s : St) (d : Dd) {K : Nat} (hn : d.nu + 2 ≤ K) : (aDeed r s d).length ≤ 4 * K := by
  cases d with
  | steps n =>
    have := atL_len r (pls (gapf s) s.spr (-n))
    simp [aDeed, aSteps]; omega
  | fill n =>
    have := fillL_len s n.toNat 0 r [] []
    simp only [Dd.nu] at hn
    simp [aDeed, aFill] at this ⊢; omega
  | gap =>
    have := sgs_len r (gapf s)
    simp [aDeed, aGap]; omega
  | rest =>
    have := sgs_len r (gapf s)
    simp [aDeed, aRest]; omega
  | span a c =>
    show (aSpan r s a c).length ≤ 4 * K
    unfold aSpan
    split
    · simp; omega
    · split
      · simp; omega
      · rename_i f _ _ g _
        have := sgs_len r (pls f g (-1))
        rw [List.length_map]; omega
  | _ => simp [aDeed]; omega
theorem ledS_len (i : Nat) (d : Dd) {K : Nat} (hn : d.nu + 2 ≤ K) (l : List (Rg × St)) : (ledS i d l).length ≤ 4 * K * l.length := by
  induction l with
  | nil => simp [ledS]
  | cons x r ih =>
    have e0 : ledS i d (x :: r) = (if x.2.w = .on then aDeed x.1 { x.2 with ix := (i : Int) } d else [x]) ++ ledS i d r := by unfold ledS; rw [List.flatMap_cons]
    rw [e0, List.length_append, List.length_cons, Nat.mul_add, Nat.mul_one]
    have : (if x.2.w = .on then aDeed x.1 { x.2 with ix := (i : Int) } d else [x]).length ≤ 4 * K := by
      split
      · exact aDeed_len _ _ d hn
      · simp; omega
    omega
theorem ledF_len {K : Nat} (hK : 2 ≤ K) : ∀ (ds : List Dd) (i : Nat) (l : List (Rg × St)), (∀ d ∈ ds, d.nu + 2 ≤ K) → (ledF i ds l).length ≤ (4 * K) ^ ds.length * l.length := by
  intro ds
  induction ds with
  | nil => intro i l _; simp [ledF]
  | cons d r ih =>
    intro i l hd
    have h1 := ih (i + 1) (ledS i d l) fun x hx => hd x (List.mem_cons_of_mem _ hx)
    have h2 := ledS_len i d (hd d List.mem_cons_self) l
    have h3 := Nat.mul_le_mul_left ((4 * K) ^ r.length) h2
    rw [List.length_cons, Nat.pow_succ, Nat.mul_assoc]
    exact Nat.le_trans h1 h3
theorem Tel.of {K : Nat} {ds : List Dd} (hK : 2 ≤ K) (hd : ∀ d ∈ ds, d.Ok ∧ d.nu + 2 ≤ K) (h : (4 * K) ^ ds.length < 16777216) (hl : ds.length < 900) : Tel K ds := by
  have h2 : K ^ ds.length ≤ (4 * K) ^ ds.length := Nat.pow_le_pow_left (by omega) _
  refine ⟨hK, hd, by omega, hl, fun j hj => ?_⟩
  have h1 := ledF_len hK (ds.take j) 0 [(ALL, st0)] fun d k => (hd d (List.mem_of_mem_take k)).2
  have h3 : (4 * K) ^ (ds.take j).length ≤ (4 * K) ^ ds.length := Nat.pow_le_pow_right (by omega) (by rw [List.length_take]; omega)
  simp only [List.length_cons, List.length_nil] at h1
  omega
theorem dsF_tel (st : Bool) (n : Nat) (h1 : 1 ≤ n) (h5 : n ≤ 5) (rw : Bool) (ls : List Str) (hl : ls.length ≤ 1) (hn : ∀ a ∈ ls, nmOk a) : Tel 7 (dsF st n rw ls) := by
  have l3 : (dsF st n rw ls).length ≤ 3 := by unfold dsF; cases rw <;> simp <;> omega
  refine Tel.of (by omega) (fun d hd => ?_) ?_ (by omega)
  · unfold dsF at hd
    rcases List.mem_append.mp hd with hd | hd
    · rcases List.mem_append.mp hd with hd | hd
      · cases rw <;> simp at hd
        rw [hd]; exact ⟨trivial, by decide⟩
      · rw [List.mem_singleton.mp hd]
        cases st
        · exact ⟨⟨by omega, by omega⟩, by simp [Dd.nu]; omega⟩
        · exact ⟨⟨by omega, by omega⟩, by simp [Dd.nu]; omega⟩
    · obtain ⟨a, ha, rfl⟩ := List.mem_map.mp hd
      exact ⟨hn a ha, by simp [Dd.nu]⟩
  · have : (4 * 7) ^ (dsF st n rw ls).length ≤ (4 * 7) ^ 3 := Nat.pow_le_pow_right (by omega) l3
    omega
end LW

namespace LW
open PySem PySem.Spec PyProof.Rows L2 DL
theorem lc_right (rw : Bool) (s3 s4 s5 s6 : Sl) (K : List D → Rho → Zs → Prop) (X : Er → Rho → Zs → Prop) (z : Zs) (h : K (if rw = true then [] else [.tup [.str "right"]]) [Sl.fr D.cel, Sl.no, Sl.no, s3, s4, s5, s6, Sl.no, Sl.no] z) :
    lcL [7] (gN 7) (ep true) p1__law_rg_right (rngD 0 (1 - if rw = true then (1 : Int) else 0).toNat) [] [Sl.fr D.cel, Sl.no, Sl.no, s3, s4, s5, s6, Sl.no, Sl.no] K X z := by
  cases rw with
  | true => simpa [rngD] using h
  | false =>
    show lcL [7] (gN 7) (ep true) p1__law_rg_right (rngD 0 1) [] _ K X z
    simp only [rngD]
    rw [lcL_cons]
    simp
    rw [p1__law_rg_right]
    simp
    simpa [wipeR] using h
theorem w__law_rg_right (c : Int) (cs : List MC) (hc : c < 10 ^ 14) (Q : D → Zs → Prop) (X : Er → Zs → Prop) (h : ∀ z, Q (.bl true) z) : m__law_rg_right [.cel] Q X ⟨c, cs⟩ := by
  rw [me__law_rg_right]
  simp [s__law_rg_right]
  refine w__law_rg_pick 2 _ _ _ (by omega) (by omega) (by show c < _; omega) fun w m1 a0 a1 (h1 : m1 ≤ c + 1) => ?_
  obtain ⟨st, hst⟩ : ∃ st : Bool, L2.atI [D.str "fill", D.str "steps"] w = some (D.str (if st = true then "steps" else "fill")) := by
    have : w = 0 ∨ w = 1 := by omega
    rcases this with rfl | rfl
    · exact ⟨false, rfl⟩
    · exact ⟨true, rfl⟩
  refine ⟨_, hst, ?_⟩
  refine w__law_rg_pick 5 _ _ _ (by omega) (by omega) (by show m1 < _; omega) fun n m2 b0 b1 (h2 : m2 ≤ m1 + 1) => ?_
  obtain ⟨n, e, n1, n5⟩ : ∃ k : Nat, 1 + n = (k : Int) ∧ 1 ≤ k ∧ k ≤ 5 := ⟨(1 + n).toNat, by omega, by omega, by omega⟩
  simp [e]
  refine w__law_rg_pick 2 _ _ _ (by omega) (by omega) (by show m2 < _; omega) fun v m3 c0 c1 (h3 : m3 ≤ m2 + 1) => ?_
  simp
  generalize hrw : decide (v = 0) = rw
  refine w__law_rg_names 1 (by omega) m3 cs (by omega) _ _ fun ls m4 l1 ln _ h4 => ?_
  refine w__law_rg_pick 2 _ _ _ (by omega) (by omega) (by show m4 < _; omega) fun t m5 d0 d1 (h5 : m5 ≤ m4 + 1) => ?_
  simp
  obtain ⟨lb, el, ll, ln2⟩ : ∃ lb : List Str, DL.cutD (ls.map D.str) none (some t) = lb.map .str ∧ lb.length ≤ 1 ∧ ∀ a ∈ lb, nmOk a := by
    match ls, l1 with
    | [a], _ =>
      have : t = 0 ∨ t = 1 := by omega
      rcases this with rfl | rfl
      · exact ⟨[], rfl, by simp, fun _ k => nomatch k⟩
      · exact ⟨[a], rfl, by simp, ln⟩
  rw [el]
  refine ⟨by split <;> omega, ?_⟩
  simp only [wipeR, List.set_cons_zero, List.set_cons_succ]
  refine lc_right rw _ _ _ _ _ _ _ ?_
  simp
  refine ⟨by split <;> simp, ?_⟩
  refine lc_run 8 _ D.str (fun a => .tup [.str "mark", .str a]) (fun d => rfl) _ _ lb [] _ _ (fun a ha Q' hQ => ?_) (by simp; omega) ?_
  · rw [p0__law_rg_right]
    simp
    exact hQ
  simp
  have ed : (if rw = true then [] else [D.tup [D.str "right"]]) ++ D.tup [D.str (if st = true then "steps" else "fill"), D.int n] :: lb.map (fun a => D.tup [D.str "mark", D.str a]) = (dsF st n rw lb).map Dd.D := by
    have e1 : lb.map (Dd.D ∘ Dd.mark) = lb.map (fun a => D.tup [D.str "mark", D.str a]) := rfl
    cases st <;> cases rw <;> simp [dsF, Dd.D, e1]
  refine ⟨by split <;> simp <;> omega, ?_⟩
  refine w__law_rg_rows st n n1 (by omega) rw lb (by omega) _ _ _ ?_
  rw [ed]
  have T := dsF_tel st n n1 n5 rw lb ll ln2
  have chk : ∀ d ∈ dsF st n rw lb, ∀ (Q : D → Zs → Prop) (X : Er → Zs → Prop) (z : Zs), Q d.D z → m_checked_deed [d.D] Q X z := fun d hd => w_checked d (T.hd d hd).1
  have tl := T.hl
  have ok := due_ok st n n1 n5 rw lb ll ln2
  refine w_script _ chk (by omega) _ _ _ ⟨rfl, ?_⟩
  refine w_ranges T _ _ _ ?_
  rw [rg_due lb ll st rw n n1 n5]
  refine ⟨ok, ok, fun _ => ?_, fun e => absurd rfl e⟩
  refine w_script _ chk (by omega) _ _ _ ⟨rfl, ?_⟩
  refine w_ranges T _ _ _ ?_
  rw [rg_due lb ll st rw n n1 n5]
  refine ⟨ok, ok, ?_⟩
  rw [decide_eq_true rfl]
  exact h _
end LW

namespace LW
open PySem PySem.Spec PyProof.Rows L2 DL
theorem w_law (ns : List Int) (Q : D → Zs → Prop) (X : Er → Zs → Prop) (h : Q (.bl true) {}) : m_law [.scr ns] Q X {} := by
  rw [me_law]
  simp [s_law]
  have key : ∀ (n i : Nat) (t : Sl) (Q' : Fl → Rho → Zs → Prop) (X' : Er → Rho → Zs → Prop), n + i ≤ 63 → (∀ t, Q' .nx [Sl.fr (.scr ns), t] {}) → forL (gN 1) p0_law (rngD (i : Nat) n) [Sl.fr (.scr ns), t] Q' X' {} := by
    intro n
    induction n with
    | zero => intro i t Q' X' hi hq; simp [rngD]; exact hq t
    | succ n ih =>
      intro i t Q' X' hi hq
      simp only [rngD, forL_cons, gN_a, List.set_cons_zero, List.set_cons_succ]
      rw [p0_law]
      simp
      refine w__law_rg_sack ns i _ _ {} (by omega) fun x y hx hy hy2 => ?_
      simp
      refine ⟨⟨hx, hy, by omega⟩, w__law_rg_right _ _ (by omega) _ _ fun z' => ?_⟩
      simp
      exact ih (i + 1) _ _ _ (by omega) hq
  generalize hm : (if 1 < (if (ns.length : Int) < 63 then (ns.length : Int) else 63) then (if (ns.length : Int) < 63 then (ns.length : Int) else 63) else 1) = m
  have hm2 : 1 ≤ m ∧ m ≤ 63 := by split at hm <;> split at hm <;> omega
  refine ⟨⟨by omega, by omega⟩, ?_⟩
  refine key m.toNat 0 .no _ _ (by omega) fun t => ?_
  simp
  exact h
end LW

open PySem PySem.W PySem.Calls PyProof.Rows
theorem PySem.Challenge.cw_dividersteps_k19_one_fill_holds : PySem.Challenge.rw_dividersteps_k19_one_fill.Holds := by
  w_on; o_law
  refine HandSHeadRun.head_any (r := OpenLaw.row PySem.Challenge.rw_dividersteps_k19_one_fill) (q := view (OpenLaw.row PySem.Challenge.rw_dividersteps_k19_one_fill).prog [53]) (H := LW.hkL) (ob := LW.obL) (M := 6000) (loose := LW.looseL) (d := HandSHeadRun.topDef (OpenLaw.row PySem.Challenge.rw_dividersteps_k19_one_fill).prog 53) (kwd := []) LW.obL_eq
    (by kernel_rfl) (fun s => by kernel_rfl) LW.runL (by kernel_rfl) (by kernel_rfl) (by kernel_rfl) (by rfl) (by first | assumption | decide +kernel) (by decide +kernel) ⟨rfl, rfl, rfl, rfl, rfl, by decide +kernel⟩ ?hw ?hc
  case hw => w_witness2
  case hc =>
    refine DL.walk_end (l := PySem.Challenge.rw_dividersteps_k19_one_fill) (n := 63) (k := 12) (x := "_law_script") (m := LW.m_law) rfl (by decide) (by kernel_rfl) ⟨rfl, by decide, by decide⟩ rfl ?F (fun ns hn => LW.w_law ns _ _ rfl)
    intro w mg fa h Y G hm
    obtain ⟨K, KX, c⟩ := Y
    have hm2 : mg ("law" : PySem.Str) = some (.ref fa) := by
      have e : (HandSHeadRun.topDef (OpenLaw.row PySem.Challenge.rw_dividersteps_k19_one_fill).prog 53).name = ("law" : PySem.Str) := by kernel_rfl
      rw [← e]
      exact hm
    have e := hm2.symm.trans (He.glo_ok KX G (c.1.fact 46 (f := .glo "law") rfl))
    cases e
    obtain ⟨fd, F⟩ := c.1.def_ 51 (d := LW.d53) rfl
    have b := L2.FunD.bindsA (ps := ["_law_script"]) F fun _ _ _ _ _ _ us hl => match us, hl with | [_], _ => rfl
    exact ⟨K, fd, KX, fun s u => b s [u] rfl, fun base hK hN => LW.ok_law (P := (PySem.Challenge.rw_dividersteps_k19_one_fill).prog) (w := w) (base := base) ⟨hK, hN, c⟩ F⟩
