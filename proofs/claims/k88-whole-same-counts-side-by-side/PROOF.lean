import PyProof.Rows.All
import Wide.All
import OpenK.AllK
import Wide.FinOn
import HandS.ForMost
import HandS.ForExc
import HandS.Flow
import HandS.Wide
import HandS.Defaults
import HandS.ExcInit
import HandS.ExcOwn
import KE.KDictKeyed
import HandS.Deep
import HandS.TupAny
import HandS.TupMul
import HandS.Codes
import PyProof.ReprRoads
import HandS.Conv
import OpenK.KMore
import HandS.RaiseMore
import HandS.Iter
import HandS.Comp
import HandS.ExcField
import HandS.ExcIs
import HandS.IsInst
import KE.KExcIs
import HandS.Ends
import HandS.HeadHook1
import HandS.HeadHook2
import PyProof.ReprBulk
import PyProof.FitsInt
import HandS.Style
import HandS.TupLe
import PyProof.FString2
import PyProof.FactsAll.bool_2
import HandS.More
import HandS.Head2
import HandS.HeadHook3
import HandS.Property
import HandS.MakeKw
import HandS.Text
import HandS.TryMany
import HandS.Strs
import HandS.SetKeys
import KE.SortData
import HandS.Star
import PyProof.InstEq
import HandS.SlotsOwn
import HandS.Set
import HandS.SetBool
import OpenK.KMeth
import HandS.Zip
import KE.DataMinMax
import KE.DataFind
import PyProof.DictMoreH
import HandS.ListEq
import KE.KStateDown
import HandS.Head0
import HandS.Head1
import HandS.HeadEnd
import PySem.Challenge.RW_dividersteps_k88_whole_same_counts_side
set_option Elab.async false
set_option linter.all false
set_option maxRecDepth 100000
set_option maxHeartbeats 0

namespace DL
open PySem PySem.Spec PyProof.Rows L2

/-! ## data, and how the heap bears it -/
inductive D where
  | non | bl (b : Bool) | int (i : Int) | str (s : Str)
  | lst (xs : List D) | tup (xs : List D)
  | cel
  | ins (c : Str) (ns : List Str) (vs : List D)
  | dic (ks : List Key) (vs : List D)
  | exn (a x : Addr) (c : Str) (v : D)
  | scr (ns : List Int)
  | mc (k : Nat)

/-- the mark of a thing that changes, in the frozen part -/
def gh (k : Nat) : HO := .rng (k : Int) (-1)
theorem gh_inj {j k : Nat} (h : gh j = gh k) : j = k := by unfold gh at h; cases h; rfl
def NG (o : HO) : Prop := ∀ k, o ≠ gh k
theorem ngL {xs : List V} : NG (.lst xs) := fun _ e => by cases e
theorem ngT {xs : List V} : NG (.tup xs) := fun _ e => by cases e
theorem ngD {xs : List (Key × V)} : NG (.dK xs) := fun _ e => by cases e
theorem ngI {C dx : Addr} {fs : List (Str × V)} : NG (.ins C dx fs) := fun _ e => by cases e
theorem ngX {fs : List (Str × V)} : NG (.xd fs) := fun _ e => by cases e
/-- the frozen part, but for the marks, lies in the heap -/
def Sub (F H : Hp) : Prop := ∀ b o, F b = some o → NG o → H b = some o
/-- a key ((int, int), bool) -/
abbrev NK := (Int × Int) × Bool
/-- what a thing that changes holds -/
inductive MC where
  | lst (xs : List D) | dic (ks : List Key) (xs : List D)
  | dit (ks : List (List Key)) (xs : List D)
  | raw (u : HO)
  | din (ks : List NK) (xs : List D)
/-- how many draws; the things that change -/
structure Zs where
  n : Int := 0
  cs : List MC := []

mutual
inductive Rp (K : PySem.W.Frag) (mg : Str → Option Value) (pa : Option Addr) (F : Hp) : V → D → Prop
  | non : Rp K mg pa F .non .non
  | bl (b : Bool) : Rp K mg pa F (.bl b) (.bl b)
  | int (i : Int) : Rp K mg pa F (.int i) (.int i)
  | str (s : Str) : Rp K mg pa F (.str s) (.str s)
  | lst {a : Addr} {xs : List V} {ds : List D} : some a ≠ pa → F a = some (.lst xs) → RpL K mg pa F xs ds → Rp K mg pa F (.ref a) (.lst ds)
  | tup {a : Addr} {xs : List V} {ds : List D} : SqT K F a xs → RpL K mg pa F xs ds → Rp K mg pa F (.ref a) (.tup ds)
  | cel {a : Addr} : pa = some a → Rp K mg pa F (.ref a) .cel
  | ins {a C dx : Addr} {c : Str} {ns : List Str} {xs : List V} {ds : List D} : mg c = some (.ref C) → F a = some (.ins C dx (ns.zip xs)) → ns.length = xs.length → RpL K mg pa F xs ds → Rp K mg pa F (.ref a) (.ins c ns ds)
  | dic {a : Addr} {ks : List Key} {xs : List V} {ds : List D} : Rd F a (.dK (ks.zip xs)) → ks.length = xs.length → RpL K mg pa F xs ds → Rp K mg pa F (.ref a) (.dic ks ds)
  | exn {a x : Addr} {c : Str} {u : V} {e : D} : F x = some (.xd [(("value" : Str), u)]) → Rp K mg pa F u e → Rp K mg pa F (.ref a) (.exn a x c e)
  | scr {a : Addr} {ns : List Int} : SqL K F a (ns.map V.int) → Rp K mg pa F (.ref a) (.scr ns)
  | mc {a : Addr} {k : Nat} : F a = some (gh k) → Rp K mg pa F (.ref a) (.mc k)
inductive RpL (K : PySem.W.Frag) (mg : Str → Option Value) (pa : Option Addr) (F : Hp) : List V → List D → Prop
  | nil : RpL K mg pa F [] []
  | cons {v : V} {vs : List V} {d : D} {ds : List D} : Rp K mg pa F v d → RpL K mg pa F vs ds → RpL K mg pa F (v :: vs) (d :: ds)
end

section
variable {K : PySem.W.Frag} {mg : Str → Option Value} {pa : Option Addr} {F F' H H' : Hp} {v : V} {vs : List V} {d : D} {ds : List D}
theorem rdSame (s : Same F F') {a : Addr} {u : HO} (h : Rd F a u) : Rd F' a u := by
  rcases h with h | ⟨o, h⟩
  · exact .inl (s _ _ h)
  · exact .inr ⟨o, s _ _ h⟩
theorem rdSub (s : Sub F F') {a : Addr} {u : HO} (h : Rd F a u) (n : NG u) : Rd F' a u := by
  rcases h with h | ⟨o, h⟩
  · exact .inl (s _ _ h n)
  · exact .inr ⟨o, s _ _ h fun k e => by cases e⟩
theorem sqlSub (s : Sub F F') {a : Addr} {xs : List V} (h : SqL K F a xs) : SqL K F' a xs := h.elim (fun x => .inl (rdSub s x fun k e => by cases e)) .inr
theorem sqtSub (s : Sub F F') {a : Addr} {xs : List V} (h : SqT K F a xs) : SqT K F' a xs := h.elim (fun x => .inl (rdSub s x fun k e => by cases e)) .inr
theorem sqlSame (s : Same F F') {a : Addr} {xs : List V} (h : SqL K F a xs) : SqL K F' a xs := h.elim (fun x => .inl (rdSame s x)) .inr
theorem sqtSame (s : Same F F') {a : Addr} {xs : List V} (h : SqT K F a xs) : SqT K F' a xs := h.elim (fun x => .inl (rdSame s x)) .inr
mutual
theorem Rp.mono (s : Same F F') : ∀ {d : D} {v : V}, Rp K mg pa F v d → Rp K mg pa F' v d
  | .non, _, h => by cases h; exact .non
  | .bl _, _, h => by cases h; exact .bl _
  | .int _, _, h => by cases h; exact .int _
  | .str _, _, h => by cases h; exact .str _
  | .lst _, _, h => by cases h with | lst n q r => exact .lst n (s _ _ q) (RpL.mono s r)
  | .tup _, _, h => by cases h with | tup q r => exact .tup (sqtSame s q) (RpL.mono s r)
  | .cel, _, h => by cases h with | cel e => exact .cel e
  | .ins _ _ _, _, h => by cases h with | ins g q l r => exact .ins g (s _ _ q) l (RpL.mono s r)
  | .dic _ _, _, h => by cases h with | dic q l r => exact .dic (rdSame s q) l (RpL.mono s r)
  | .exn _ _ _ _, _, h => by cases h with | exn q r => exact .exn (s _ _ q) (Rp.mono s r)
  | .scr _, _, h => by cases h with | scr q => exact .scr (sqlSame s q)
  | .mc _, _, h => by cases h with | mc q => exact .mc (s _ _ q)
theorem RpL.mono (s : Same F F') : ∀ {ds : List D} {vs : List V}, RpL K mg pa F vs ds → RpL K mg pa F' vs ds
  | [], _, h => by cases h; exact .nil
  | _ :: _, _, h => by cases h with | cons a b => exact .cons (Rp.mono s a) (RpL.mono s b)
end
theorem RpL.length : ∀ {ds : List D} {vs : List V}, RpL K mg pa F vs ds → vs.length = ds.length
  | [], _, h => by cases h; rfl
  | _ :: _, _, h => by cases h with | cons a b => simp [RpL.length b]
theorem RpL.get : ∀ {ds : List D} {vs : List V} {i : Nat} {d : D}, RpL K mg pa F vs ds → ds[i]? = some d → ∃ v, vs[i]? = some v ∧ Rp K mg pa F v d
  | [], _, _, _, h, e => by simp at e
  | _ :: _, _, 0, _, h, e => by cases h with | cons a b => simp at e; subst e; exact ⟨_, rfl, a⟩
  | _ :: _, _, i + 1, _, h, e => by cases h with | cons a b => simpa using RpL.get (i := i) b (by simpa using e)
theorem RpL.getV : ∀ {ds : List D} {vs : List V} {i : Nat} {v : V}, RpL K mg pa F vs ds → vs[i]? = some v → ∃ d, ds[i]? = some d ∧ Rp K mg pa F v d
  | [], _, _, _, h, e => by cases h; simp at e
  | _ :: _, _, 0, _, h, e => by cases h with | cons a b => simp at e; subst e; exact ⟨_, rfl, a⟩
  | _ :: _, _, i + 1, _, h, e => by cases h with | cons a b => simpa using RpL.getV (i := i) b (by simpa using e)
theorem RpL.append : ∀ {ds es : List D} {vs ws : List V}, RpL K mg pa F vs ds → RpL K mg pa F ws es → RpL K mg pa F (vs ++ ws) (ds ++ es)
  | [], _, _, _, h, q => by cases h; exact q
  | _ :: _, _, _, _, h, q => by cases h with | cons a b => exact .cons a (RpL.append b q)
theorem RpL.take : ∀ (n : Nat) {ds : List D} {vs : List V}, RpL K mg pa F vs ds → RpL K mg pa F (vs.take n) (ds.take n)
  | 0, _, _, _ => by simp; exact .nil
  | _ + 1, [], _, h => by cases h; exact .nil
  | n + 1, _ :: _, _, h => by cases h with | cons a b => exact .cons a (RpL.take n b)
theorem RpL.drop : ∀ (n : Nat) {ds : List D} {vs : List V}, RpL K mg pa F vs ds → RpL K mg pa F (vs.drop n) (ds.drop n)
  | 0, _, _, h => h
  | _ + 1, [], _, h => by cases h; exact .nil
  | n + 1, _ :: _, _, h => by cases h with | cons a b => exact RpL.drop n b
theorem RpL.set : ∀ (n : Nat) {ds : List D} {vs : List V}, RpL K mg pa F vs ds → Rp K mg pa F v d → RpL K mg pa F (vs.set n v) (ds.set n d)
  | _, [], _, h, _ => by cases h; exact .nil
  | 0, _ :: _, _, h, q => by cases h with | cons a b => exact .cons q b
  | n + 1, _ :: _, _, h, q => by cases h with | cons a b => exact .cons a (RpL.set n b q)
end

/-! ## a def's ground: what stood at its entry; the purse -/
structure CC where
  K : PySem.W.Frag
  mg : Str → Option Value
  pa : Option Addr
  F0 : Hp
  H0 : Hp
  hid : List Addr := []
abbrev CC.R (C : CC) (F : Hp) (v : V) (d : D) : Prop := Rp C.K C.mg C.pa F v d
abbrev CC.RL (C : CC) (F : Hp) (v : List V) (d : List D) : Prop := RpL C.K C.mg C.pa F v d

inductive Sl where
  | no | fr (d : D) | own (xs : List D)
abbrev Rho := List Sl
/-- a raised error: its class's name, its value -/
abbrev Er := Str × D

theorem _root_.L2.Same.subT {F G H : Hp} (a : Same F G) (b : Sub G H) : Sub F H := fun c o h n => b c o (a c o h) n
/-- how a heap grows: all stays but the purse and what changes; marks are new; nothing goes -/
structure Keep (pa : Option Addr) (F F' H H' : Hp) : Prop where
  ke : ∀ b o, H b = some o → some b ≠ pa → (∀ k, F b ≠ some (gh k)) → H' b = some o
  gn : ∀ b k, F' b = some (gh k) → F b = some (gh k) ∨ H b = none
  dm : ∀ b, H b ≠ none → H' b ≠ none
theorem Keep.refl {pa : Option Addr} {F H : Hp} : Keep pa F F H H := ⟨fun _ _ h _ _ => h, fun _ _ h => .inl h, fun _ h => h⟩
theorem Keep.trans {pa : Option Addr} {F F1 F2 H H1 H2 : Hp} (a : Keep pa F F1 H H1) (b : Keep pa F1 F2 H1 H2) : Keep pa F F2 H H2 where
  ke := fun c o h n g => by
    refine b.ke c o (a.ke c o h n g) n fun k e => ?_
    rcases a.gn c k e with q | q
    · exact g k q
    · rw [h] at q; cases q
  gn := fun c k e => by
    rcases b.gn c k e with q | q
    · exact a.gn c k q
    · refine .inr ?_
      cases r : H c with
      | none => rfl
      | some o => exact absurd q (a.dm c (by rw [r]; simp))
  dm := fun c h => b.dm c (a.dm c h)
theorem Keep.new {pa : Option Addr} {F H : Hp} {p : Addr} {o : HO} (h : H p = none) : Keep pa F F H (upd H p o) where
  ke := fun b u e _ _ => by rw [upd_ne (ne_of_none e h)]; exact e
  gn := fun _ _ h => .inl h
  dm := fun b e => by
    by_cases q : b = p
    · rw [q, upd_same]; simp
    · rw [upd_ne q]; exact e
theorem Keep.newF {pa : Option Addr} {F H : Hp} {p : Addr} {o u : HO} (h : H p = none) : Keep pa F (upd F p u) H (upd H p o) where
  ke := (Keep.new (pa := pa) (F := F) h).ke
  gn := fun b k e => by
    by_cases q : b = p
    · rw [q]; exact .inr h
    · rw [upd_ne q] at e; exact .inl e
  dm := (Keep.new (pa := pa) (F := F) h).dm
theorem Keep.frz {pa : Option Addr} {F H : Hp} {p : Addr} {o : HO} (n : NG o) : Keep pa F (upd F p o) H H where
  ke := fun _ _ h _ _ => h
  gn := fun b k e => by
    by_cases q : b = p
    · rw [q, upd_same] at e; cases e; exact absurd rfl (n k)
    · rw [upd_ne q] at e; exact .inl e
  dm := fun _ h => h
/-- what was not there ahead changes -/
theorem Keep.updH {pa : Option Addr} {F F' H H' : Hp} {p : Addr} {o : HO} (k : Keep pa F F' H H') (h : H p = none) : Keep pa F F' H (upd H' p o) where
  ke := fun b u e n g => by rw [upd_ne (ne_of_none e h)]; exact k.ke b u e n g
  gn := k.gn
  dm := fun b e => by
    by_cases q : b = p
    · rw [q, upd_same]; simp
    · rw [upd_ne q]; exact k.dm b e
theorem Same.new {H : Hp} {p : Addr} {o : HO} (h : H p = none) : Same H (upd H p o) := fun b u e => by rw [upd_ne (ne_of_none e h)]; exact e
theorem Sub.upd2 {F H : Hp} {p : Addr} {o : HO} (s : Sub F H) : Sub (upd F p o) (upd H p o) := fun b u e n => by
  by_cases q : b = p
  · subst q; rw [upd_same] at e ⊢; exact e
  · rw [upd_ne q] at e ⊢; exact s _ _ e n
theorem Sub.updR {F H : Hp} {p : Addr} {o : HO} (s : Sub F H) (h : F p = none) : Sub F (upd H p o) := fun b u e n => by
  rw [upd_ne (ne_of_none e h)]; exact s _ _ e n
theorem Sub.updG {F H : Hp} {p : Addr} {o : HO} {k : Nat} (s : Sub F H) : Sub (upd F p (gh k)) (upd H p o) := fun b u e n => by
  by_cases q : b = p
  · subst q; rw [upd_same] at e; cases e; exact absurd rfl (n k)
  · rw [upd_ne q] at e ⊢; exact s _ _ e n

/-- a dict whose keys are ((int, int), bool), at a: its entries -/
def nkN (k : NK) : NestedKey := .tup [.tup [.num k.1.1, .num k.1.2], .num (if k.2 = true then 1 else 0)]
def RowN (p : NK × Addr × V) (q : NestedKey × Addr × Value) : Prop := q.1 = nkN p.1 ∧ p.2.1 = q.2.1 ∧ RelV p.2.2 q.2.2
def phiN (a : Addr) (rows : List (NK × Addr × V)) (h : Heap) : Prop := (a == sysModules) = false ∧ rows.length ≤ sizeLine ∧ (rows.map (·.1)).Nodup ∧ ∃ (w : World) (xs : List (NestedKey × Addr × Value)), Paired RowN rows xs ∧
  ∃ o es ep, h.get? a = some o ∧ o.ExactDict ∧ o.data = .dict es ep ∧ es.toList = xs.map fun x => ⟨x.1.hash w, .ref x.2.1, x.2.2⟩
def KeyAt (K : PySem.W.Frag) (F : Hp) (k : NK) (b : Addr) : Prop := ∃ c, SqT K F b [.ref c, .bl k.2] ∧ SqT K F c [.int k.1.1, .int k.1.2]
theorem KeyAt.same {K : PySem.W.Frag} {F F' : Hp} {k : NK} {b : Addr} (s : Same F F') (h : KeyAt K F k b) : KeyAt K F' k b := let ⟨c, x, y⟩ := h; ⟨c, sqtSame s x, sqtSame s y⟩
theorem KeyAt.sub {K : PySem.W.Frag} {F F' : Hp} {k : NK} {b : Addr} (s : Sub F F') (h : KeyAt K F k b) : KeyAt K F' k b := let ⟨c, x, y⟩ := h; ⟨c, sqtSub s x, sqtSub s y⟩
/-- what a changing thing's object holds -/
def CO (K : PySem.W.Frag) (mg : Str → Option Value) (pa : Option Addr) (F : Hp) (o : HO) : MC → Prop
  | .lst ds => ∃ xs, o = .lst xs ∧ RpL K mg pa F xs ds
  | .dic ks ds => ∃ xs, o = .dK (ks.zip xs) ∧ ks.length = xs.length ∧ RpL K mg pa F xs ds
  | .dit ks ds => ∃ xs, o = .dT (ks.zip xs) ∧ ks.length = xs.length ∧ RpL K mg pa F xs ds
  | .raw u => o = u
  | .din ks ds => ∃ a rows, o = .ext (phiN a rows) ∧ rows.map (·.1) = ks ∧ (∀ r ∈ rows, KeyAt K F r.1 r.2.1) ∧ RpL K mg pa F (rows.map (·.2.2)) ds
structure CsOk (K : PySem.W.Frag) (mg : Str → Option Value) (pa : Option Addr) (F H : Hp) (cs : List MC) : Prop where
  at_ : ∀ k c, cs[k]? = some c → ∃ a o, F a = some (gh k) ∧ H a = some o ∧ CO K mg pa F o c
  lt : ∀ a k, F a = some (gh k) → k < cs.length
  inj : ∀ a b k, F a = some (gh k) → F b = some (gh k) → a = b
section
variable {K : PySem.W.Frag} {mg : Str → Option Value} {pa : Option Addr} {F F' H H' : Hp} {cs : List MC} {c : MC} {o : HO} {p : Addr}
theorem CO.mono (s : Same F F') (h : CO K mg pa F o c) : CO K mg pa F' o c := by
  cases c with
  | lst ds => obtain ⟨xs, e, r⟩ := h; exact ⟨xs, e, RpL.mono s r⟩
  | dic ks ds => obtain ⟨xs, e, l, r⟩ := h; exact ⟨xs, e, l, RpL.mono s r⟩
  | dit ks ds => obtain ⟨xs, e, l, r⟩ := h; exact ⟨xs, e, l, RpL.mono s r⟩
  | raw u => exact h
  | din ks ds => obtain ⟨a, rows, e, l, k, r⟩ := h; exact ⟨a, rows, e, l, fun x hx => (k x hx).same s, RpL.mono s r⟩
/-- the marks and what they mark stay -/
theorem CsOk.grow (h : CsOk K mg pa F H cs) (ff : Same F F') (hg : ∀ a k, F' a = some (gh k) → F a = some (gh k)) (hh : ∀ a k o, F a = some (gh k) → H a = some o → H' a = some o) : CsOk K mg pa F' H' cs :=
  ⟨fun k c e => by
    obtain ⟨a, o, e1, e2, e3⟩ := h.at_ k c e
    exact ⟨a, o, ff _ _ e1, hh a k o e1 e2, e3.mono ff⟩, fun a k e => h.lt a k (hg a k e), fun a b k e1 e2 => h.inj a b k (hg a k e1) (hg b k e2)⟩
theorem CsOk.get (h : CsOk K mg pa F H cs) {a : Addr} {k : Nat} (e : F a = some (gh k)) : ∃ o c, H a = some o ∧ cs[k]? = some c ∧ CO K mg pa F o c := by
  have l := h.lt a k e
  obtain ⟨b, o, e1, e2, e3⟩ := h.at_ k cs[k] (List.getElem?_eq_getElem l)
  have := h.inj a b k e e1
  subst this
  exact ⟨o, _, e2, List.getElem?_eq_getElem l, e3⟩
theorem gh_upd {k : Nat} (n : NG o) {a : Addr} (h : upd F p o a = some (gh k)) : F a = some (gh k) := by
  by_cases q : a = p
  · rw [q, upd_same] at h; cases h; exact absurd rfl (n k)
  · rw [upd_ne q] at h; exact h
/-- a new changing thing -/
theorem CsOk.newC (h : CsOk K mg pa F H cs) (hp : H p = none) (hf : F p = none) (hc : CO K mg pa F o c) : CsOk K mg pa (upd F p (gh cs.length)) (upd H p o) (cs ++ [c]) :=
  ⟨fun k c' e => by
    by_cases q : k < cs.length
    · rw [List.getElem?_append_left q] at e
      obtain ⟨a, o', e1, e2, e3⟩ := h.at_ k c' e
      exact ⟨a, o', by rw [upd_ne (ne_of_none e1 hf)]; exact e1, by rw [upd_ne (ne_of_none e2 hp)]; exact e2, e3.mono (Same.new hf)⟩
    · rw [List.getElem?_append_right (by omega)] at e
      have hk : k - cs.length = 0 := by
        cases r : k - cs.length with
        | zero => rfl
        | succ n => rw [r] at e; simp at e
      rw [hk] at e; simp at e; subst e
      have hk' : k = cs.length := by omega
      subst hk'
      exact ⟨p, o, upd_same, upd_same, hc.mono (Same.new hf)⟩,
   fun a k e => by
    rw [List.length_append]
    by_cases q : a = p
    · rw [q, upd_same] at e; have := gh_inj (Option.some.inj e); simp; omega
    · rw [upd_ne q] at e; have := h.lt a k e; omega,
   fun a b k e1 e2 => by
    by_cases q : a = p <;> by_cases r : b = p
    · rw [q, r]
    · rw [q, upd_same] at e1; rw [upd_ne r] at e2
      have := gh_inj (Option.some.inj e1); have := h.lt b k e2; omega
    · rw [r, upd_same] at e2; rw [upd_ne q] at e1
      have := gh_inj (Option.some.inj e2); have := h.lt a k e1; omega
    · rw [upd_ne q] at e1; rw [upd_ne r] at e2; exact h.inj a b k e1 e2⟩
/-- a changing thing changes -/
theorem CsOk.set (h : CsOk K mg pa F H cs) {k : Nat} (e : F p = some (gh k)) (hc : CO K mg pa F o c) : CsOk K mg pa F (upd H p o) (cs.set k c) :=
  ⟨fun j c' q => by
    by_cases hj : j = k
    · subst hj
      rw [List.getElem?_set_self (h.lt _ _ e)] at q
      cases q
      exact ⟨p, o, e, upd_same, hc⟩
    · rw [List.getElem?_set_ne (Ne.symm hj)] at q
      obtain ⟨a, o', e1, e2, e3⟩ := h.at_ j c' q
      have ne : a ≠ p := fun z => hj (gh_inj (Option.some.inj (by rw [← e1, z, e])))
      exact ⟨a, o', e1, by rw [upd_ne ne]; exact e2, e3⟩,
   fun a j q => by rw [List.length_set]; exact h.lt a j q, h.inj⟩
end

/-- the purse -/
def PzOk (pa : Option Addr) (F H : Hp) (z : Zs) : Prop := ∀ p, pa = some p → F p = none ∧ ∃ x y : Int, H p = some (.lst [.int x, .int y, .int z.n]) ∧ 0 ≤ x ∧ 0 ≤ y ∧ y < 10 ^ 24 + 7 ∧ 0 ≤ z.n

def SlOk (C : CC) (F H : Hp) : Option V → Sl → Prop
  | _, .no => True
  | some v, .fr d => C.R F v d
  | some v, .own ds => ∃ a xs, v = .ref a ∧ H a = some (.lst xs) ∧ F a = none ∧ C.H0 a = none ∧ some a ≠ C.pa ∧ C.RL F xs ds ∧ a ∉ C.hid
  | none, .fr _ => False
  | none, .own _ => False

structure StOk (C : CC) (σ : L2.St) (ρ : Rho) (F H : Hp) (z : Zs) : Prop where
  sub : Sub F H
  f0 : Same C.F0 F
  h0 : Keep C.pa C.F0 F C.H0 H
  nw : ∀ b, F b ≠ none → C.F0 b = none → C.H0 b = none
  len : σ.length = ρ.length
  env : ∀ (i : Nat) v s, σ[i]? = some v → ρ[i]? = some s → SlOk C F H v s
  apart : ∀ (i j : Nat) x y a, ρ[i]? = some (.own x) → ρ[j]? = some (.own y) → σ[i]? = some (some (.ref a)) → σ[j]? = some (some (.ref a)) → i = j
  pz : PzOk C.pa F H z
  hd : ∀ b ∈ C.hid, F b = none ∧ (∃ o, H b = some o) ∧ some b ≠ C.pa
  cs : CsOk C.K C.mg C.pa F H z.cs

theorem nog {F : Hp} {a : Addr} (h : F a = none) : ∀ k, F a ≠ some (gh k) := fun k e => by rw [h] at e; cases e
section
variable {C : CC} {σ : L2.St} {ρ : Rho} {F F' H H' : Hp} {z z' : Zs}
/-- nothing frozen stands where the heap has nothing -/
theorem StOk.free (S : StOk C σ ρ F H z) {p : Addr} (h : H p = none) : F p = none := by
  cases q : F p with
  | none => rfl
  | some o =>
    by_cases g : ∃ k, o = gh k
    · obtain ⟨k, rfl⟩ := g
      obtain ⟨o', _, e, _⟩ := S.cs.get q
      rw [h] at e; cases e
    · have := S.sub p o q fun k e => g ⟨k, e⟩
      rw [h] at this; cases this
/-- the frozen part and the heap grow; what the frame owns stays -/
theorem StOk.grow (S : StOk C σ ρ F H z) (ff : Same F F') (sub : Sub F' H') (hk : Keep C.pa F F' H H') (nw : ∀ b, F' b ≠ none → F b = none → H b = none) (pz : PzOk C.pa F' H' z') (cs : CsOk C.K C.mg C.pa F' H' z'.cs) : StOk C σ ρ F' H' z' := by
  refine ⟨sub, S.f0.trans ff, S.h0.trans hk, fun b h1 h2 => ?_, S.len, fun i v s e1 e2 => ?_, S.apart, pz, fun b hb => ?_, cs⟩
  · by_cases q : F b = none
    · have hb := nw b h1 q
      cases e : C.H0 b with
      | none => rfl
      | some o => exact absurd hb (S.h0.dm b (by rw [e]; simp))
    · exact S.nw b q h2
  · have h := S.env i v s e1 e2
    cases s with
    | no => cases v <;> trivial
    | fr d =>
      cases v with
      | none => exact h.elim
      | some v => exact Rp.mono ff h
    | own ds =>
      cases v with
      | none => exact h.elim
      | some v =>
        obtain ⟨a, xs, rfl, ha, hf, h0, np, r, nh⟩ := h
        refine ⟨a, xs, rfl, hk.ke a _ ha np (nog hf), ?_, h0, np, RpL.mono ff r, nh⟩
        cases e : F' a with
        | none => rfl
        | some o =>
          have := nw a (by rw [e]; simp) hf
          rw [ha] at this; cases this
  · obtain ⟨h1, ⟨o, h2⟩, h3⟩ := S.hd b hb
    refine ⟨?_, ⟨o, hk.ke b o h2 h3 (nog h1)⟩, h3⟩
    cases e : F' b with
    | none => rfl
    | some u =>
      have := nw b (by rw [e]; simp) h1
      rw [h2] at this; cases this
/-- a new object, not frozen -/
theorem StOk.newH (S : StOk C σ ρ F H z) {p : Addr} {o : HO} (h : H p = none) : StOk C σ ρ F (upd H p o) z := by
  have hf : F p = none := S.free h
  refine S.grow (Same.refl F) (Sub.updR S.sub hf) (Keep.new h) (fun b h1 h2 => absurd h2 h1) (fun q e => ?_) (S.cs.grow (Same.refl F) (fun _ _ e => e) fun a k u _ e => by rw [upd_ne (ne_of_none e h)]; exact e)
  obtain ⟨h1, x, y, h2, r⟩ := S.pz q e
  have ne : q ≠ p := ne_of_none h2 h
  exact ⟨h1, x, y, by rw [upd_ne ne]; exact h2, r⟩
/-- a new object, frozen at once -/
theorem StOk.newF (S : StOk C σ ρ F H z) {p : Addr} {o : HO} (h : H p = none) (n : NG o) : StOk C σ ρ (upd F p o) (upd H p o) z := by
  have hf : F p = none := S.free h
  refine S.grow (Same.new hf) (Sub.upd2 S.sub) (Keep.newF h) (fun b h1 h2 => ?_) (fun q e => ?_) (S.cs.grow (Same.new hf) (fun _ _ e => gh_upd n e) fun a k u _ e => by rw [upd_ne (ne_of_none e h)]; exact e)
  · by_cases e : b = p
    · rw [e]; exact h
    · rw [upd_ne e] at h1; exact absurd h2 h1
  · obtain ⟨h1, x, y, h2, r⟩ := S.pz q e
    have ne : q ≠ p := ne_of_none h2 h
    exact ⟨by rw [upd_ne ne]; exact h1, x, y, by rw [upd_ne ne]; exact h2, r⟩
/-- a new thing that changes -/
theorem StOk.newC (S : StOk C σ ρ F H z) {p : Addr} {o : HO} {c : MC} (h : H p = none) (hc : CO C.K C.mg C.pa F o c) : StOk C σ ρ (upd F p (gh z.cs.length)) (upd H p o) { z with cs := z.cs ++ [c] } := by
  have hf : F p = none := S.free h
  refine S.grow (Same.new hf) (Sub.updG S.sub) (Keep.newF h) (fun b h1 h2 => ?_) (fun q e => ?_) (S.cs.newC h hf hc)
  · by_cases e : b = p
    · rw [e]; exact h
    · rw [upd_ne e] at h1; exact absurd h2 h1
  · obtain ⟨h1, x, y, h2, r⟩ := S.pz q e
    have ne : q ≠ p := ne_of_none h2 h
    exact ⟨by rw [upd_ne ne]; exact h1, x, y, by rw [upd_ne ne]; exact h2, r⟩
theorem keep_cell {pa : Option Addr} {p : Addr} {o : HO} {k : Nat} (e : F p = some (gh k)) : Keep pa F F H (upd H p o) where
  ke := fun b u h _ g => by rw [upd_ne (fun q => g k (by rw [q]; exact e))]; exact h
  gn := fun _ _ h => .inl h
  dm := fun b h => by
    by_cases q : b = p
    · rw [q, upd_same]; simp
    · rw [upd_ne q]; exact h
/-- a thing changes -/
theorem StOk.setC (S : StOk C σ ρ F H z) {p : Addr} {o : HO} {c : MC} {k : Nat} (e : F p = some (gh k)) (hc : CO C.K C.mg C.pa F o c) : StOk C σ ρ F (upd H p o) { z with cs := z.cs.set k c } := by
  refine S.grow (Same.refl F) (fun b u h n => ?_) (keep_cell e) (fun b h1 h2 => absurd h2 h1) (fun q r => ?_) (S.cs.set e hc)
  · have ne : b ≠ p := fun z => by rw [z, e] at h; cases h; exact n k rfl
    rw [upd_ne ne]; exact S.sub _ _ h n
  · obtain ⟨h1, x, y, h2, r⟩ := S.pz q r
    have ne : q ≠ p := fun z => by rw [z, e] at h1; cases h1
    exact ⟨h1, x, y, by rw [upd_ne ne]; exact h2, r⟩
/-- an object that stands and is nobody's is frozen -/
theorem StOk.freeze (S : StOk C σ ρ F H z) {p : Addr} {o : HO} (hp : H p = some o) (hf : F p = none) (h0 : C.H0 p = none) (np : some p ≠ C.pa) (no : ∀ (i : Nat) xs, ρ[i]? = some (.own xs) → σ[i]? ≠ some (some (.ref p))) (nh : p ∉ C.hid) (n : NG o) : StOk C σ ρ (upd F p o) H z := by
  have sub : Sub (upd F p o) H := fun b u e n => by
    by_cases q : b = p
    · subst q; rw [upd_same] at e; cases e; exact hp
    · rw [upd_ne q] at e; exact S.sub _ _ e n
  refine ⟨sub, S.f0.trans (Same.new hf), S.h0.trans (Keep.frz n), fun b h1 h2 => ?_, S.len, fun i v s e1 e2 => ?_, S.apart, fun q e => ?_, fun b hb => ?_, S.cs.grow (Same.new hf) (fun _ _ e => gh_upd n e) fun _ _ _ _ e => e⟩
  · by_cases e : b = p
    · rw [e]; exact h0
    · rw [upd_ne e] at h1; exact S.nw b h1 h2
  · have h := S.env i v s e1 e2
    cases s with
    | no => cases v <;> trivial
    | fr d =>
      cases v with
      | none => exact h.elim
      | some v => exact Rp.mono (Same.new hf) h
    | own ds =>
      cases v with
      | none => exact h.elim
      | some v =>
        obtain ⟨a, xs, rfl, ha, hf', h0', np', r, nh'⟩ := h
        have ne : a ≠ p := fun e => no i ds e2 (by rw [e1, e])
        exact ⟨a, xs, rfl, ha, by rw [upd_ne ne]; exact hf', h0', np', RpL.mono (Same.new hf) r, nh'⟩
  · obtain ⟨h1, r⟩ := S.pz q e
    have ne : q ≠ p := fun z => np (by rw [← z, e])
    exact ⟨by rw [upd_ne ne]; exact h1, r⟩
  · obtain ⟨h1, r⟩ := S.hd b hb
    have ne : b ≠ p := fun z => nh (by rw [← z]; exact hb)
    exact ⟨by rw [upd_ne ne]; exact h1, r⟩
end
end DL

namespace DL
open PySem PySem.Spec PyProof.Rows L2

/-! ## computations over slots, draws, errors: predicate transformers -/
abbrev E (α : Type) := Rho → (α → Rho → Zs → Prop) → (Er → Rho → Zs → Prop) → Zs → Prop
abbrev E0 (α : Type) := (α → Zs → Prop) → (Er → Zs → Prop) → Zs → Prop
def eb {α β : Type} (m : E α) (f : α → E β) : E β := fun ρ Q X z => m ρ (fun a ρ' z' => f a ρ' Q X z') X z
def ep {α : Type} (a : α) : E α := fun ρ Q _ z => Q a ρ z
def eP {α : Type} (p : (α → Prop) → Prop) : E α := fun ρ Q _ z => p fun a => Q a ρ z
def e0 {α : Type} (m : E0 α) : E α := fun ρ Q X z => m (fun a z' => Q a ρ z') (fun e z' => X e ρ z') z

/-- how an error lies -/
def ExR (C : CC) (F H : Hp) (e : Er) (cls : Value) (dd : Option Addr) : Prop := ∃ (A x : Addr) (v : V), C.mg e.1 = some (.ref A) ∧ cls = .ref A ∧ dd = some x ∧ F x = some (.xd [(("value" : Str), v)]) ∧ C.R F v e.2

/-- what is owned behind was owned ahead -/
def Ole (r' r : Rho) : Prop := ∀ (i : Nat) ys, r'[i]? = some (.own ys) → ∃ zs, r[i]? = some (.own zs)
theorem Ole.refl {r : Rho} : Ole r r := fun _ ys h => ⟨ys, h⟩
theorem Ole.trans {a b c : Rho} (h : Ole a b) (q : Ole b c) : Ole a c := fun i ys e => let ⟨zs, e1⟩ := h i ys e; q i zs e1
/-- the reading t does what m says; R ties the results -/
def Den {α β : Type} (C : CC) (W : WX) (t : L2.St → Hp → (β → Hp → Prop) → Prop) (m : E α) (R : Hp → Hp → Hp → β → α → Prop) : Prop :=
  ∀ (σ : L2.St) (ρ : Rho) (F H : Hp) (z : Zs) (Qd : α → Rho → Zs → Prop) (Xd : Er → Rho → Zs → Prop) (Q : β → Hp → Prop), StOk C σ ρ F H z → m ρ Qd Xd z →
    (∀ a ρ' z' b F' H', Qd a ρ' z' → StOk C σ ρ' F' H' z' → Same F F' → Keep C.pa F F' H H' → Ole ρ' ρ → R H F' H' b a → Q b H') →
    (∀ e ρ' z' cls dd F' H', Xd e ρ' z' → StOk C σ ρ' F' H' z' → Same F F' → ExR C F' H' e cls dd → W cls dd σ H') → t σ H Q

/-- a value that is frozen, or a thing that stands as it is just now, its items frozen -/
def RTo (C : CC) (F : Hp) (o : HO) : D → Prop
  | .lst ds => ∃ xs, o = .lst xs ∧ C.RL F xs ds
  | .dic ks ds => ∃ xs, o = .dK (ks.zip xs) ∧ ks.length = xs.length ∧ C.RL F xs ds
  | _ => False
def RT (C : CC) (F H : Hp) (v : V) (d : D) : Prop := C.R F v d ∨ ∃ a o, v = .ref a ∧ H a = some o ∧ some a ≠ C.pa ∧ RTo C F o d
/-- a value that is frozen, or a list that stands, no changing thing -/
def RK (C : CC) (F H : Hp) (v : V) (d : D) : Prop := C.R F v d ∨ ∃ a xs ds, v = .ref a ∧ d = .lst ds ∧ H a = some (.lst xs) ∧ some a ≠ C.pa ∧ (∀ k, F a ≠ some (gh k)) ∧ C.RL F xs ds
theorem RK.now {C : CC} {F H : Hp} {v : V} {d : D} (h : RK C F H v d) : RT C F H v d := by
  rcases h with h | ⟨a, xs, ds, e1, e2, e3, e4, e5, e6⟩
  · exact .inl h
  · subst e2
    exact .inr ⟨a, _, e1, e3, e4, xs, rfl, e6⟩
/-- a new list of one's own -/
def RO (C : CC) (H F' H' : Hp) (v : V) (ds : List D) : Prop := ∃ a xs, v = .ref a ∧ H' a = some (.lst xs) ∧ F' a = none ∧ H a = none ∧ some a ≠ C.pa ∧ C.RL F' xs ds
section
variable {C : CC} {F F' H H' : Hp} {v : V} {d : D} {ds : List D}
theorem RK.keep (s : Same F F') (k : Keep C.pa F F' H H') (h : RK C F H v d) : RK C F' H' v d := by
  rcases h with h | ⟨a, xs, ds, e1, e2, e3, e4, e5, e6⟩
  · exact .inl (Rp.mono s h)
  · refine .inr ⟨a, xs, ds, e1, e2, k.ke a _ e3 e4 e5, e4, fun j e => ?_, RpL.mono s e6⟩
    rcases k.gn a j e with q | q
    · exact e5 j q
    · rw [e3] at q; cases q
theorem RT.int {i : Int} (h : RT C F H v (.int i)) : v = .int i := by
  rcases h with h | ⟨_, _, _, _, _, e⟩
  · cases h; rfl
  · exact e.elim
theorem RT.bl {b : Bool} (h : RT C F H v (.bl b)) : v = .bl b := by
  rcases h with h | ⟨_, _, _, _, _, e⟩
  · cases h; rfl
  · exact e.elim
theorem RT.str {b : Str} (h : RT C F H v (.str b)) : v = .str b := by
  rcases h with h | ⟨_, _, _, _, _, e⟩
  · cases h; rfl
  · exact e.elim
theorem RT.non (h : RT C F H v .non) : v = .non := by
  rcases h with h | ⟨_, _, _, _, _, e⟩
  · cases h; rfl
  · exact e.elim
theorem RT.lst (s : Sub F H) (h : RT C F H v (.lst ds)) : ∃ a xs, v = .ref a ∧ H a = some (.lst xs) ∧ C.RL F xs ds ∧ some a ≠ C.pa := by
  rcases h with h | ⟨a, o, e1, e2, e3, xs, e4, e5⟩
  · cases h with | lst n q r => exact ⟨_, _, rfl, s _ _ q ngL, r, n⟩
  · subst e4
    exact ⟨a, xs, e1, e2, e5, e3⟩
theorem RT.tup (s : Sub F H) (h : RT C F H v (.tup ds)) : ∃ a xs, v = .ref a ∧ SqT C.K H a xs ∧ C.RL F xs ds := by
  rcases h with h | ⟨_, _, _, _, _, e⟩
  · cases h with | tup q r => exact ⟨_, _, rfl, sqtSub s q, r⟩
  · exact e.elim
end

/-- all but lists and dicts are frozen -/
theorem RT.fro {C : CC} {F H : Hp} {v : V} {d : D} (h : RT C F H v d) (n : ∀ o, ¬ RTo C F o d) : C.R F v d := by
  rcases h with h | ⟨_, o, _, _, _, e⟩
  · exact h
  · exact (n o e).elim
theorem RT.scr {C : CC} {F H : Hp} {v : V} {ns : List Int} (s : Sub F H) (h : RT C F H v (.scr ns)) : ∃ a, v = .ref a ∧ SqL C.K H a (ns.map V.int) := by
  rcases h with h | ⟨_, _, _, _, _, e⟩
  · cases h with | scr q => exact ⟨_, rfl, sqlSub s q⟩
  · exact e.elim

abbrev kR (C : CC) : Hp → Hp → Hp → V → D → Prop := fun _ F' _ v d => C.R F' v d
abbrev kT (C : CC) : Hp → Hp → Hp → V → D → Prop := fun _ F' H' v d => RK C F' H' v d
abbrev kL (C : CC) : Hp → Hp → Hp → List V → List D → Prop := fun _ F' _ v d => C.RL F' v d
abbrev kB : Hp → Hp → Hp → Bool → Bool → Prop := fun _ _ _ a b => a = b

/-- an expression: its value frozen; a passing one; a new list; arguments; a test -/
structure XE (X : Cx) (C : CC) (W : WX) (e : Expr) (m : E D) : Prop where
  ex : ∃ t, PE X e t ∧ Den C W t m (kR C)
structure XP (X : Cx) (C : CC) (W : WX) (e : Expr) (m : E D) : Prop where
  ex : ∃ t, PE X e t ∧ Den C W t m (kT C)
structure XO (X : Cx) (C : CC) (W : WX) (e : Expr) (m : E (List D)) : Prop where
  ex : ∃ t, PE X e t ∧ Den C W t m (RO C)
structure XA (X : Cx) (C : CC) (W : WX) (es : List Expr) (m : E (List D)) : Prop where
  ex : ∃ t, PA X es t ∧ Den C W t m (kL C)
structure XT (X : Cx) (C : CC) (W : WX) (e : Expr) (m : E Bool) : Prop where
  ex : ∃ t, PT X e t ∧ Den C W t m kB
structure XW (X : Cx) (C : CC) (W : WX) (e : Expr) (m : E Bool) : Prop where
  ex : ∃ t, PW X e t ∧ Den C W t m kB

/-- the context's facts -/
structure Kx (X : Cx) (C : CC) (W : WX) (k : Nat) : Prop where
  hK : X.K = C.K
  hmg : X.mg = C.mg
  calm : X.calm = true
  gu : X.A.guards = some []
  room : Room k X.A
  tk : Takes X W
  nd : X.N.Nodup
  po : PassesOwn (model X.prog X.w) X.A X.env X.xe
theorem Kx.hu {X : Cx} {C : CC} {W : WX} {k : Nat} (h : Kx X C W k) : X.A.units + 65 < cLine := by have := h.room.un; omega

section
variable {X : Cx} {C : CC} {W : WX} {e e1 e2 e3 a b c : Expr} {es : List Expr} {m ma mb mc : E D} {pos : Pos} {k : Nat}

theorem XE.p (h : XE X C W e m) : XP X C W e m := by
  obtain ⟨t, h1, h2⟩ := h.ex
  exact ⟨t, h1, fun σ ρ F H z Qd Xd Q S hm hq hx => h2 σ ρ F H z Qd Xd Q S hm (fun a ρ' z' b F' H' q S' ff hk ol r => hq a ρ' z' b F' H' q S' ff hk ol (.inl r)) hx⟩
/-- a new list, as a passing value -/
theorem XO.p {m : E (List D)} (h : XO X C W e m) : XP X C W e (eb m fun ds => ep (.lst ds)) := by
  obtain ⟨t, h1, h2⟩ := h.ex
  exact ⟨t, h1, fun σ ρ F H z Qd Xd Q S hm hq hx => h2 σ ρ F H z _ Xd Q S hm (fun ds ρ' z' b F' H' q S' ff hk ol ⟨a, xs, e1, e2, e3, e4, e5, e6⟩ => hq _ ρ' z' b F' H' q S' ff hk ol (.inr ⟨a, xs, ds, e1, rfl, e2, e5, nog e3, e6⟩)) hx⟩
theorem StOk.notOwn {σ : L2.St} {ρ : Rho} {F H : Hp} {z : Zs} (S : StOk C σ ρ F H z) {p : Addr} (h : H p = none) {ρ' : Rho} (ol : Ole ρ' ρ) : ∀ (i : Nat) ys, ρ'[i]? = some (.own ys) → σ[i]? ≠ some (some (.ref p)) := fun i ys r1 r2 => by
  obtain ⟨zs, r3⟩ := ol i ys r1
  obtain ⟨a, xs, e1, e2, _⟩ := S.env i _ _ r2 r3
  cases e1
  rw [h] at e2
  cases e2
theorem StOk.h0None {σ : L2.St} {ρ : Rho} {F H : Hp} {z : Zs} (S : StOk C σ ρ F H z) {p : Addr} (h : H p = none) (np : some p ≠ C.pa) : C.H0 p = none := by
  cases q0 : C.H0 p with
  | none => rfl
  | some o => exact absurd h (S.h0.dm p (by rw [q0]; simp))
theorem StOk.notHid {σ : L2.St} {ρ : Rho} {F H : Hp} {z : Zs} (S : StOk C σ ρ F H z) {p : Addr} (h : H p = none) : p ∉ C.hid := fun hp => by
  obtain ⟨_, ⟨o, e⟩, _⟩ := S.hd p hp
  rw [h] at e
  cases e
/-- .. frozen -/
theorem XO.fz {m : E (List D)} (h : XO X C W e m) : XE X C W e (eb m fun ds => ep (.lst ds)) := by
  obtain ⟨t, h1, h2⟩ := h.ex
  refine ⟨t, h1, fun σ ρ F H z Qd Xd Q S hm hq hx => h2 σ ρ F H z _ Xd Q S hm (fun ds ρ' z' b F' H' q S' ff hk ol ⟨a, xs, e1, e2, e3, e4, e5, e6⟩ => ?_) hx⟩
  refine hq _ ρ' z' b _ H' q (S'.freeze e2 e3 (S.h0None e4 e5) e5 (S.notOwn e4 ol) (S.notHid e4) ngL) (ff.trans (Same.new e3)) (hk.trans (Keep.frz ngL)) ol ?_
  subst e1
  exact .lst e5 upd_same (RpL.mono (Same.new e3) e6)

/-! ## composing -/
/-- what a result's tie keeps when its start is set back -/
def Back {α β : Type} (C : CC) (R : Hp → Hp → Hp → β → α → Prop) : Prop := ∀ (H H1 F' H' : Hp) (b : β) (a : α), (∀ q, H q ≠ none → H1 q ≠ none) → R H1 F' H' b a → R H F' H' b a
theorem back_R : Back C (kR C) := fun _ _ _ _ _ _ _ h => h
theorem back_L : Back C (kL C) := fun _ _ _ _ _ _ _ h => h
theorem back_B : Back C kB := fun _ _ _ _ _ _ _ h => h
theorem back_O : Back C (RO C) := fun H H1 F' H' b a k ⟨p, xs, e1, e2, e3, e4, e5, e6⟩ => ⟨p, xs, e1, e2, e3, (by
  cases q : H p with
  | none => rfl
  | some o => exact absurd e4 (k p (by rw [q]; simp))), e5, e6⟩
/-- one part, then what the rest does with it -/
theorem Den.bind {α β γ δ : Type} {t : L2.St → Hp → (β → Hp → Prop) → Prop} {u : β → L2.St → Hp → (δ → Hp → Prop) → Prop} {m1 : E α} {f : α → E γ} {R1 : Hp → Hp → Hp → β → α → Prop} {R : Hp → Hp → Hp → δ → γ → Prop} (hB : Back C R)
    (h1 : Den C W t m1 R1)
    (h2 : ∀ (H0 : Hp) (σ : L2.St) (ρ : Rho) (F H : Hp) (z : Zs) (a : α) (b : β) (Qd : γ → Rho → Zs → Prop) (Xd : Er → Rho → Zs → Prop) (Q : δ → Hp → Prop), StOk C σ ρ F H z → R1 H0 F H b a → f a ρ Qd Xd z →
      (∀ c ρ' z' d F' H', Qd c ρ' z' → StOk C σ ρ' F' H' z' → Same F F' → Keep C.pa F F' H H' → Ole ρ' ρ → R H F' H' d c → Q d H') →
      (∀ e ρ' z' cls dd F' H', Xd e ρ' z' → StOk C σ ρ' F' H' z' → Same F F' → ExR C F' H' e cls dd → W cls dd σ H') → u b σ H Q) :
    Den C W (fun σ H Q => t σ H fun b H1 => u b σ H1 Q) (eb m1 f) R := fun σ ρ F H z Qd Xd Q S hm hq hx =>
  h1 σ ρ F H z _ Xd _ S hm (fun a ρ1 z1 b F1 H1 q1 S1 ff1 k1 o1 r1 => h2 H σ ρ1 F1 H1 z1 a b Qd Xd Q S1 r1 q1
      (fun c ρ' z' d F' H' q' S' ff' k' o' r' => hq c ρ' z' d F' H' q' S' (ff1.trans ff') (k1.trans k') (o'.trans o1) (hB _ _ _ _ _ _ k1.dm r'))
      (fun e ρ' z' cls dd F' H' q' S' ff' r' => hx e ρ' z' cls dd F' H' q' S' (ff1.trans ff') r'))
    hx
/-- a two-place operation on passing values -/
def Op2 {α : Type} (C : CC) (W : WX) (r : R2) (f : D → D → E α) (R : Hp → Hp → Hp → V → α → Prop) : Prop :=
  ∀ (σ : L2.St) (ρ : Rho) (F H : Hp) (z : Zs) (x y : V) (dx dy : D) (Qd : α → Rho → Zs → Prop) (Xd : Er → Rho → Zs → Prop) (Q : VK), StOk C σ ρ F H z → RT C F H x dx → RT C F H y dy → f dx dy ρ Qd Xd z →
    (∀ c ρ' z' d F' H', Qd c ρ' z' → StOk C σ ρ' F' H' z' → Same F F' → Keep C.pa F F' H H' → Ole ρ' ρ → R H F' H' d c → Q d H') →
    (∀ e ρ' z' cls dd F' H', Xd e ρ' z' → StOk C σ ρ' F' H' z' → Same F F' → ExR C F' H' e cls dd → W cls dd σ H') → r x y H Q
theorem den_op {α : Type} {ta tb : TE} {r : R2} {f : D → D → E α} {R : Hp → Hp → Hp → V → α → Prop} (hB : Back C R) (ha : Den C W ta ma (kT C)) (hb : Den C W tb mb (kT C)) (ho : Op2 C W r f R) :
    Den C W (tOp r ta tb) (eb ma fun x => eb mb fun y => f x y) R :=
  Den.bind (u := fun x σ H Q => tb σ H fun y H2 => r x y H2 Q) hB ha fun H0 σ ρ F H z a x Qd Xd Q S ra hm hq hx =>
    hb σ ρ F H z _ Xd _ S hm (fun d ρ2 z2 y F2 H2 q2 S2 ff2 k2 o2 rb => ho σ ρ2 F2 H2 z2 x y a d Qd Xd Q S2 (ra.keep ff2 k2).now rb.now q2
        (fun c ρ' z' d' F' H' q' S' ff' k' o' r' => hq c ρ' z' d' F' H' q' S' (ff2.trans ff') (k2.trans k') (o'.trans o2) (hB _ _ _ _ _ _ k2.dm r'))
        (fun e ρ' z' cls dd F' H' q' S' ff' r' => hx e ρ' z' cls dd F' H' q' S' (ff2.trans ff') r'))
      hx
/-- a one-place operation -/
def Op1 {α β : Type} (C : CC) (W : WX) (r : V → Hp → (β → Hp → Prop) → Prop) (f : D → E α) (R : Hp → Hp → Hp → β → α → Prop) : Prop :=
  ∀ (σ : L2.St) (ρ : Rho) (F H : Hp) (z : Zs) (x : V) (dx : D) (Qd : α → Rho → Zs → Prop) (Xd : Er → Rho → Zs → Prop) (Q : β → Hp → Prop), StOk C σ ρ F H z → RT C F H x dx → f dx ρ Qd Xd z →
    (∀ c ρ' z' d F' H', Qd c ρ' z' → StOk C σ ρ' F' H' z' → Same F F' → Keep C.pa F F' H H' → Ole ρ' ρ → R H F' H' d c → Q d H') →
    (∀ e ρ' z' cls dd F' H', Xd e ρ' z' → StOk C σ ρ' F' H' z' → Same F F' → ExR C F' H' e cls dd → W cls dd σ H') → r x H Q
theorem den_un {α β : Type} {ta : TE} {r : V → Hp → (β → Hp → Prop) → Prop} {f : D → E α} {R : Hp → Hp → Hp → β → α → Prop} (hB : Back C R) (ha : Den C W ta ma (kT C)) (ho : Op1 C W r f R) :
    Den C W (fun σ H Q => ta σ H fun x H1 => r x H1 Q) (eb ma f) R :=
  Den.bind (u := fun x _ H Q => r x H Q) hB ha fun H0 σ ρ F H z a x Qd Xd Q S ra hm hq hx => ho σ ρ F H z x a Qd Xd Q S ra.now hm hq hx

/-! ## new objects -/
theorem StOk.npa {σ : L2.St} {ρ : Rho} {F H : Hp} {z : Zs} (S : StOk C σ ρ F H z) {p : Addr} (h : H p = none) : some p ≠ C.pa := fun e => by
  obtain ⟨_, x, y, h2, _⟩ := S.pz p e.symm
  rw [h] at h2
  cases h2
section
variable {σ : L2.St} {ρ : Rho} {F H : Hp} {z : Zs} {p : Addr} {xs : List V} {ds : List D}
theorem StOk.newL (S : StOk C σ ρ F H z) (h : H p = none) (r : C.RL F xs ds) {Q : VK} {Qd : List D → Rho → Zs → Prop} (hd : Qd ds ρ z)
    (hq : ∀ c ρ' z' d F' H', Qd c ρ' z' → StOk C σ ρ' F' H' z' → Same F F' → Keep C.pa F F' H H' → Ole ρ' ρ → RO C H F' H' d c → Q d H') : Q (.ref p) (upd H p (.lst xs)) :=
  hq ds ρ z _ F _ hd (S.newH h) (Same.refl F) (Keep.new h) Ole.refl ⟨p, xs, rfl, upd_same, S.free h, h, S.npa h, r⟩
theorem StOk.newT (S : StOk C σ ρ F H z) (h : H p = none) (r : C.RL F xs ds) {Q : VK} {Qd : D → Rho → Zs → Prop} (hd : Qd (.tup ds) ρ z)
    (hq : ∀ c ρ' z' d F' H', Qd c ρ' z' → StOk C σ ρ' F' H' z' → Same F F' → Keep C.pa F F' H H' → Ole ρ' ρ → C.R F' d c → Q d H') : Q (.ref p) (upd H p (.tup xs)) :=
  hq (.tup ds) ρ z _ _ _ hd (S.newF h ngT) (Same.new (S.free h)) (Keep.newF h) Ole.refl (.tup (.inl (.inl upd_same)) (RpL.mono (Same.new (S.free h)) r))
/-- nothing changes -/
theorem StOk.same (S : StOk C σ ρ F H z) {α β : Type} {R : Hp → Hp → Hp → β → α → Prop} {Q : β → Hp → Prop} {Qd : α → Rho → Zs → Prop} {a : α} {b : β} (hd : Qd a ρ z) (r : R H F H b a)
    (hq : ∀ c ρ' z' d F' H', Qd c ρ' z' → StOk C σ ρ' F' H' z' → Same F F' → Keep C.pa F F' H H' → Ole ρ' ρ → R H F' H' d c → Q d H') : Q b H :=
  hq a ρ z b F H hd S (Same.refl F) Keep.refl Ole.refl r
end

/-! ## names, constants -/
def eVar (i : Nat) : E D := fun ρ Q _ z => match ρ[i]? with
  | some (.fr d) => Q d ρ z
  | some (.own ds) => Q (.lst ds) (ρ.set i (.fr (.lst ds))) z
  | _ => False
/-- a name as it stands, not kept -/
def ePk (i : Nat) : E D := fun ρ Q _ z => match ρ[i]? with
  | some (.fr d) => Q d ρ z
  | some (.own ds) => Q (.lst ds) ρ z
  | _ => False
theorem st_get {σ : L2.St} {ρ : Rho} {F H : Hp} {z : Zs} (S : StOk C σ ρ F H z) {i : Nat} {s : Sl} (h : ρ[i]? = some s) : ∃ v, σ[i]? = some v ∧ SlOk C F H v s := by
  have hi : i < σ.length := by rw [S.len]; exact (List.getElem?_eq_some_iff.mp h).1
  exact ⟨σ[i], List.getElem?_eq_getElem hi, S.env i _ _ (List.getElem?_eq_getElem hi) h⟩
theorem xp_var (i : Nat) {x : Str} {pos : Pos} (h : PE X (.Name x pos) (tVar i)) : XP X C W (.Name x pos) (ePk i) := by
  refine ⟨tVar i, h, fun σ ρ F H z Qd Xd Q S hm hq hx => ?_⟩
  unfold ePk at hm
  cases e : ρ[i]? with
  | none => rw [e] at hm; exact hm.elim
  | some s =>
    rw [e] at hm
    obtain ⟨v, e1, r⟩ := st_get S e
    cases s with
    | no => exact hm.elim
    | fr d =>
      cases v with
      | none => exact r.elim
      | some v => exact ⟨v, e1, S.same (R := kT C) hm (.inl r) hq⟩
    | own ds =>
      cases v with
      | none => exact r.elim
      | some v =>
        obtain ⟨a, xs, rfl, ha, hf, h0, np, rr, nh⟩ := r
        exact ⟨_, e1, S.same (R := kT C) hm (.inr ⟨a, xs, ds, rfl, rfl, ha, np, nog hf, rr⟩) hq⟩
/-- a slot that was owned is frozen -/
theorem StOk.frz {σ : L2.St} {ρ : Rho} {F H : Hp} {z : Zs} (S : StOk C σ ρ F H z) {i : Nat} {ds : List D} {a : Addr} {xs : List V} (h : ρ[i]? = some (.own ds)) (hs : σ[i]? = some (some (.ref a))) (ha : H a = some (.lst xs)) (hf : F a = none) (h0 : C.H0 a = none) (np : some a ≠ C.pa)
    (r : C.RL F xs ds) (nh : a ∉ C.hid) : StOk C σ (ρ.set i (.fr (.lst ds))) (upd F a (.lst xs)) H z := by
  have hi : i < ρ.length := (List.getElem?_eq_some_iff.mp h).1
  have hsub : Sub (upd F a (.lst xs)) H := fun b u e n => by
    by_cases q : b = a
    · subst q; rw [upd_same] at e; cases e; exact ha
    · rw [upd_ne q] at e; exact S.sub _ _ e n
  refine ⟨hsub, S.f0.trans (Same.new hf), S.h0.trans (Keep.frz ngL), fun b h1 h2 => ?_, by rw [List.length_set]; exact S.len, fun j v s e1 e2 => ?_, fun j k x y b e1 e2 e3 e4 => ?_, fun q e => ?_, fun b hb => ?_, S.cs.grow (Same.new hf) (fun _ _ e => gh_upd ngL e) fun _ _ _ _ e => e⟩
  · by_cases e : b = a
    · rw [e]; exact h0
    · rw [upd_ne e] at h1; exact S.nw b h1 h2
  · by_cases hj : j = i
    · subst hj
      rw [List.getElem?_set_self hi] at e2
      cases e2
      rw [hs] at e1
      cases e1
      exact .lst np upd_same (RpL.mono (Same.new hf) r)
    · rw [List.getElem?_set_ne (Ne.symm hj)] at e2
      have hh := S.env j v s e1 e2
      cases s with
      | no => cases v <;> trivial
      | fr d =>
        cases v with
        | none => exact hh.elim
        | some v => exact Rp.mono (Same.new hf) hh
      | own es =>
        cases v with
        | none => exact hh.elim
        | some v =>
          obtain ⟨b, ys, rfl, hb, hfb, h0b, npb, rb, nhb⟩ := hh
          have ne : b ≠ a := fun e => hj (S.apart j i es ds b e2 h e1 (by rw [hs, e]))
          exact ⟨b, ys, rfl, hb, by rw [upd_ne ne]; exact hfb, h0b, npb, RpL.mono (Same.new hf) rb, nhb⟩
  · have n1 : j ≠ i := fun e => by rw [e, List.getElem?_set_self hi] at e1; cases e1
    have n2 : k ≠ i := fun e => by rw [e, List.getElem?_set_self hi] at e2; cases e2
    rw [List.getElem?_set_ne (Ne.symm n1)] at e1
    rw [List.getElem?_set_ne (Ne.symm n2)] at e2
    exact S.apart j k x y b e1 e2 e3 e4
  · obtain ⟨h1, rr⟩ := S.pz q e
    have ne : q ≠ a := fun zz => np (by rw [← zz, e])
    exact ⟨by rw [upd_ne ne]; exact h1, rr⟩
  · obtain ⟨h1, rr⟩ := S.hd b hb
    have ne : b ≠ a := fun zz => nh (by rw [← zz]; exact hb)
    exact ⟨by rw [upd_ne ne]; exact h1, rr⟩
theorem ole_set {ρ : Rho} {i : Nat} {d : D} : Ole (ρ.set i (.fr d)) ρ := fun j ys h => by
  by_cases hj : j = i
  · subst hj
    by_cases hl : j < ρ.length
    · rw [List.getElem?_set_self hl] at h; cases h
    · rw [List.getElem?_eq_none (by rw [List.length_set]; omega)] at h; cases h
  · rw [List.getElem?_set_ne (Ne.symm hj)] at h
    exact ⟨ys, h⟩
theorem xe_var (i : Nat) {x : Str} {pos : Pos} (h : PE X (.Name x pos) (tVar i)) : XE X C W (.Name x pos) (eVar i) := by
  refine ⟨tVar i, h, fun σ ρ F H z Qd Xd Q S hm hq hx => ?_⟩
  unfold eVar at hm
  cases e : ρ[i]? with
  | none => rw [e] at hm; exact hm.elim
  | some s =>
    rw [e] at hm
    obtain ⟨v, e1, r⟩ := st_get S e
    cases s with
    | no => exact hm.elim
    | fr d =>
      cases v with
      | none => exact r.elim
      | some v => exact ⟨v, e1, S.same (R := kR C) hm r hq⟩
    | own ds =>
      cases v with
      | none => exact r.elim
      | some v =>
        obtain ⟨a, xs, rfl, ha, hf, h0, np, rr, nh⟩ := r
        exact ⟨_, e1, hq _ _ _ _ _ _ hm (S.frz e e1 ha hf h0 np rr nh) (Same.new hf) (Keep.frz ngL) ole_set (.lst np upd_same (RpL.mono (Same.new hf) rr))⟩
theorem xe_c {v : V} {d : D} (h : PE X e (tC v)) (r : ∀ F, C.R F v d) : XE X C W e (ep d) := ⟨tC v, h, fun σ ρ F H z Qd Xd Q S hm hq hx => S.same (R := kR C) hm (r F) hq⟩
theorem xe_int {i : Int} {j pos} : XE X C W (.Constant (.int i) j pos) (ep (.int i)) := xe_c pe_int fun _ => .int i
theorem xe_bl {b : Bool} {j pos} : XE X C W (.Constant (.bool b) j pos) (ep (.bl b)) := xe_c pe_bl fun _ => .bl b
theorem xe_non {j pos} : XE X C W (.Constant .none j pos) (ep .non) := xe_c pe_non fun _ => .non
theorem xe_str {x : Str} {j pos} : XE X C W (.Constant (.str x) j pos) (ep (.str x)) := xe_c pe_str fun _ => .str x

/-! ## arguments, displays -/
theorem xa_nil : XA X C W [] (ep []) := ⟨tNil, pa_nil, fun σ ρ F H z Qd Xd Q S hm hq hx => S.same (R := kL C) hm .nil hq⟩
theorem xa_cons {ms : E (List D)} (h : XE X C W e m) (hs : XA X C W es ms) (hp : starEach (e :: es) X.env = (false, eval e X.env) :: starEach es X.env := by rfl) : XA X C W (e :: es) (eb m fun d => eb ms fun ds => ep (d :: ds)) := by
  obtain ⟨t, h1, h2⟩ := h.ex
  obtain ⟨ts, g1, g2⟩ := hs.ex
  refine ⟨tCons t ts, pa_cons h1 g1 hp, Den.bind (u := fun x σ H Q => ts σ H fun xs H2 => Q (x :: xs) H2) back_L h2 fun H0 σ ρ F H z a x Qd Xd Q S ra hm hq hx => ?_⟩
  exact g2 σ ρ F H z _ Xd _ S hm (fun ds ρ2 z2 xs F2 H2 q2 S2 ff2 k2 o2 rb => hq _ ρ2 z2 _ F2 H2 q2 S2 ff2 k2 o2 (.cons (Rp.mono ff2 ra) rb)) hx
def eTup (ms : E (List D)) : E D := eb ms fun ds ρ Q _ z => ds.length ≤ 16777216 ∧ Q (.tup ds) ρ z
def eLst (ms : E (List D)) : E (List D) := eb ms fun ds ρ Q _ z => ds.length ≤ 16777216 ∧ Q ds ρ z
theorem line_le {n : Nat} (h : n ≤ 16777216) : n ≤ sizeLine := by rw [sizeLine_eq]; exact h
theorem xe_tup {ms : E (List D)} {x1} (hs : XA X C W es ms) : XE X C W (.Tuple es x1 pos) (eTup ms) := by
  obtain ⟨ts, g1, g2⟩ := hs.ex
  refine ⟨tTup ts, pe_tup g1, ?_⟩
  refine Den.bind (u := fun (xs : List V) (_ : L2.St) (H : Hp) (Q : VK) => xs.length ≤ sizeLine ∧ ∀ p, H p = none → Q (.ref p) (upd H p (.tup xs))) (f := fun ds ρ Q _ z => ds.length ≤ 16777216 ∧ Q (.tup ds) ρ z) back_R g2 ?_
  intro H0 σ ρ F H z a xs Qd Xd Q S ra hm hq hx
  exact ⟨by rw [RpL.length ra]; exact line_le hm.1, fun p hp => S.newT hp ra hm.2 hq⟩
theorem xo_lst {ms : E (List D)} (hs : XA X C W es ms) : XO X C W (.List es pos) (eLst ms) := by
  obtain ⟨ts, g1, g2⟩ := hs.ex
  refine ⟨tLst ts, pe_lst g1, ?_⟩
  refine Den.bind (u := fun (xs : List V) (_ : L2.St) (H : Hp) (Q : VK) => xs.length ≤ sizeLine ∧ ∀ p, H p = none → Q (.ref p) (upd H p (.lst xs))) (f := fun ds ρ Q _ z => ds.length ≤ 16777216 ∧ Q ds ρ z) back_O g2 ?_
  intro H0 σ ρ F H z a xs Qd Xd Q S ra hm hq hx
  exact ⟨by rw [RpL.length ra]; exact line_le hm.1, fun p hp => S.newL hp ra hm.2 hq⟩
end
end DL

namespace DL
open PySem PySem.Spec PyProof.Rows L2

/-! ## data as the library's data -/
mutual
def D.py : D → PyData
  | .non => .none
  | .bl b => .bool b
  | .int i => .int i
  | .str s => .str s
  | .lst xs => .list (pyL xs)
  | .tup xs => .tuple (pyL xs)
  | .cel => .none
  | .ins _ _ _ => .none
  | .dic _ _ => .none
  | .exn _ _ _ _ => .none
  | .scr _ => .none
  | .mc _ => .none
def pyL : List D → List PyData
  | [] => []
  | x :: r => x.py :: pyL r
end
mutual
def D.isPy : D → Bool
  | .non => true
  | .bl _ => true
  | .int _ => true
  | .str _ => true
  | .lst xs => isPyL xs
  | .tup xs => isPyL xs
  | .cel => false
  | .ins _ _ _ => false
  | .dic _ _ => false
  | .exn _ _ _ _ => false
  | .scr _ => false
  | .mc _ => false
def isPyL : List D → Bool
  | [] => true
  | x :: r => x.isPy && isPyL r
end
section
variable {K : PySem.W.Frag} {mg : Str → Option Value} {pa : Option Addr} {F H : Hp}
mutual
theorem Rp.dp (s : Sub F H) : ∀ {d : D} {v : V}, Rp K mg pa F v d → d.isPy = true → Dp K H v d.py
  | .non, _, h, _ => by cases h; exact .non
  | .bl _, _, h, _ => by cases h; exact .bl _
  | .int _, _, h, _ => by cases h; exact .int _
  | .str _, _, h, _ => by cases h; exact .str _
  | .lst ds, _, h, q => by cases h with | lst n e r => exact .lst (.inl (.inl (s _ _ e ngL))) (RpL.dp s r q)
  | .tup ds, _, h, q => by cases h with | tup e r => exact .tup (sqtSub s e) (RpL.dp s r q)
  | .cel, _, _, q => by cases q
  | .ins _ _ _, _, _, q => by cases q
  | .dic _ _, _, _, q => by cases q
  | .exn _ _ _ _, _, _, q => by cases q
  | .scr _, _, _, q => by cases q
theorem RpL.dp (s : Sub F H) : ∀ {ds : List D} {vs : List V}, RpL K mg pa F vs ds → isPyL ds = true → DpAll K H vs (pyL ds)
  | [], _, h, _ => by cases h; exact .nil
  | d :: ds, _, h, q => by
    cases h with
    | cons a b =>
      obtain ⟨q1, q2⟩ := Bool.and_eq_true_iff.mp (show (d.isPy && isPyL ds) = true from q)
      exact .cons (Rp.dp s a q1) (RpL.dp s b q2)
end
end
theorem RT.dp {C : CC} {F H : Hp} {v : V} {d : D} (s : Sub F H) (h : RT C F H v d) (q : d.isPy = true) : Dp C.K H v d.py := by
  rcases h with h | ⟨a, o, e1, e2, e3, e4⟩
  · exact Rp.dp s h q
  · subst e1
    cases d <;> first | exact e4.elim | skip
    · obtain ⟨xs, rfl, e5⟩ := e4
      exact .lst (.inl (.inl e2)) (RpL.dp s e5 q)
    · cases q

/-! ## what the operators do with data -/
abbrev P1 := D → (D → Prop) → Prop
abbrev P2 := D → D → (D → Prop) → Prop
def dAdd : P2
  | .int a, .int b, Q => Q (.int (a + b))
  | .str a, .str b, Q => a.length + b.length ≤ 16777216 ∧ Q (.str (a ++ b))
  | .tup a, .tup b, Q => a.length + b.length ≤ 16777216 ∧ Q (.tup (a ++ b))
  | .lst a, .lst b, Q => a.length + b.length ≤ 16777216 ∧ Q (.lst (a ++ b))
  | _, _, _ => False
def dCat : D → D → (List D → Prop) → Prop
  | .lst a, .lst b, Q => a.length + b.length ≤ 16777216 ∧ Q (a ++ b)
  | _, _, _ => False
def dSub : P2
  | .int a, .int b, Q => Q (.int (a - b))
  | _, _, _ => False
/-- * asks: one factor small, or both of bounded size -/
def MulC (a b : Int) : Prop := a.natAbs < 2 ^ 63 ∨ b.natAbs < 2 ^ 63 ∨ CMulW a b
def dMul : P2
  | .int a, .int b, Q => MulC a b ∧ Q (.int (a * b))
  | _, _, _ => False
def dDiv : P2
  | .int a, .int b, Q => (b ≠ 0 ∧ b.natAbs.log2 < 9000) ∧ Q (.int (a.fdiv b))
  | _, _, _ => False
def dMod : P2
  | .int a, .int b, Q => b ≠ 0 ∧ Q (.int (a.fmod b))
  | _, _, _ => False
def dPow : P2
  | .int a, .int b, Q => (0 ≤ b ∧ (Builtin.Int.intBits a : Int) * b ≤ 2 ^ 27) ∧ Q (.int (a ^ b.toNat))
  | _, _, _ => False
def dEqG (a b : D) (Q : Bool → Prop) : Prop := (a.isPy = true ∧ b.isPy = true ∧ SeqAt.shaped a.py = true ∧ SeqAt.shaped b.py = true) ∧ Q (PyData.eqv a.py b.py)
/-- == -/
def dEqB : D → D → (Bool → Prop) → Prop
  | .int a, .int b, Q => Q (decide (a = b))
  | .str a, .str b, Q => Q (decide (a = b))
  | .bl a, .bl b, Q => Q (decide (a = b))
  | a, b, Q => dEqG a b Q
def dEq : P2 := fun a b Q => dEqB a b fun t => Q (.bl t)
def dNe : P2 := fun a b Q => dEqB a b fun t => Q (.bl (!t))
def dLt : P2
  | .int a, .int b, Q => Q (.bl (decide (a < b)))
  | .str a, .str b, Q => Q (.bl (decide (a.cps.toList < b.cps.toList)))
  | _, _, _ => False
def dLe : P2
  | .int a, .int b, Q => Q (.bl (decide (a ≤ b)))
  | _, _, _ => False
def dGt : P2
  | .int a, .int b, Q => Q (.bl (decide (b < a)))
  | _, _, _ => False
def dGe : P2
  | .int a, .int b, Q => Q (.bl (decide (b ≤ a)))
  | _, _, _ => False
def dIsN : P2
  | a, .non, Q => Q (.bl (match a with | .non => true | _ => false))
  | _, _, _ => False
def dNotN : P2
  | a, .non, Q => Q (.bl (match a with | .non => false | _ => true))
  | _, _, _ => False
/-- in -/
def dInB : D → D → (Bool → Prop) → Prop
  | .str a, .str b, Q => Q (!(Builtin.Str.occurrences b a 0 b.length 1).isEmpty)
  | a, .lst ds, Q => (a.isPy = true ∧ isPyL ds = true ∧ SeqAt.shaped a.py = true ∧ SeqAt.shaped (.list (pyL ds)) = true) ∧ Q ((pyL ds).any fun z => PyData.eqv z a.py)
  | _, _, _ => False
def dIn : P2 := fun a b Q => dInB a b fun t => Q (.bl t)
def dNotIn : P2 := fun a b Q => dInB a b fun t => Q (.bl (!t))
def dNeg : P1
  | .int a, Q => Q (.int (-a))
  | _, _ => False
def dNot : P1
  | .bl a, Q => Q (.bl (!a))
  | _, _ => False
def dIx : P2
  | .lst ds, .int i, Q => ∃ d, atI ds i = some d ∧ Q d
  | .tup ds, .int i, Q => ∃ d, atI ds i = some d ∧ Q d
  | .str s, .int i, Q => s.length ≤ 16777216 ∧ ∃ c, atI s.cps.toList i = some c ∧ Q (.str ⟨#[c]⟩)
  | .scr ns, .int i, Q => ∃ j, atI ns i = some j ∧ Q (.int j)
  | _, _, _ => False
/-- truth -/
def dTru : D → (Bool → Prop) → Prop
  | .non, Q => Q false
  | .bl b, Q => Q b
  | .int i, Q => Q (i != 0)
  | .str s, Q => s.length ≤ 16777216 ∧ Q ((s.length : Int) != 0)
  | .lst ds, Q => Q (!ds.isEmpty)
  | .tup ds, Q => Q (!ds.isEmpty)
  | _, _ => False

section
variable {X : Cx} {C : CC} {W : WX} {e a b c : Expr} {es : List Expr} {m ma mb mc : E D} {pos : Pos} {k : Nat}
/-- an operation whose answer is no new object -/
theorem op2_flat {r : R2} {p : P2} (h : ∀ (F H : Hp) (x y : V) (dx dy : D) (Q : VK) (Qd : D → Prop), Sub F H → RT C F H x dx → RT C F H y dy → p dx dy Qd → (∀ d v, Qd d → C.R F v d → Q v H) → r x y H Q) :
    Op2 C W r (fun a b => eP (p a b)) (kR C) := fun σ ρ F H z x y dx dy Qd Xd Q S rx ry hm hq hx => h F H x y dx dy Q _ S.sub rx ry hm fun d v q rv => S.same (R := kR C) q rv hq
theorem op1_flat {r : V → Hp → VK → Prop} {p : P1} (h : ∀ (F H : Hp) (x : V) (dx : D) (Q : VK) (Qd : D → Prop), Sub F H → RT C F H x dx → p dx Qd → (∀ d v, Qd d → C.R F v d → Q v H) → r x H Q) :
    Op1 C W r (fun a => eP (p a)) (kR C) := fun σ ρ F H z x dx Qd Xd Q S rx hm hq hx => h F H x dx Q _ S.sub rx hm fun d v q rv => S.same (R := kR C) q rv hq
theorem op1_test {r : V → Hp → (Bool → Hp → Prop) → Prop} {p : D → (Bool → Prop) → Prop} (h : ∀ (F H : Hp) (x : V) (dx : D) (Q : Bool → Hp → Prop) (Qd : Bool → Prop), Sub F H → RT C F H x dx → p dx Qd → (∀ d, Qd d → Q d H) → r x H Q) :
    Op1 C W r (fun a => eP (p a)) kB := fun σ ρ F H z x dx Qd Xd Q S rx hm hq hx => h F H x dx Q _ S.sub rx hm fun d q => S.same (R := kB) q rfl hq

theorem xe_op {op : Operator} {r : R2} {f : D → D → E D} (h : OpR X (binaryOp op) r) (ho : Op2 C W r f (kR C)) (ha : XP X C W a ma) (hb : XP X C W b mb) : XE X C W (.BinOp a op b pos) (eb ma fun x => eb mb fun y => f x y) := by
  obtain ⟨ta, a1, a2⟩ := ha.ex
  obtain ⟨tb, b1, b2⟩ := hb.ex
  exact ⟨_, pe_op h a1 b1, den_op back_R a2 b2 ho⟩
theorem xe_cmp {op : CmpOp} {r : R2} {f : D → D → E D} (h : OpR X (compareOp op) r) (ho : Op2 C W r f (kR C)) (ha : XP X C W a ma) (hb : XP X C W b mb) (hm : behindInMarks op b = false) : XE X C W (.Compare a [op] [b] pos) (eb ma fun x => eb mb fun y => f x y) := by
  obtain ⟨ta, a1, a2⟩ := ha.ex
  obtain ⟨tb, b1, b2⟩ := hb.ex
  exact ⟨_, pe_cmpR h a1 b1 hm, den_op back_R a2 b2 ho⟩
/-- a bool's test -/
def fT : D → E Bool
  | .bl t => ep t
  | _ => fun _ _ _ _ => False
def eT (m : E D) : E Bool := eb m fT
theorem den_test {t : TE} {m : E D} (h : Den C W t m (kR C)) : Den C W (tTest t) (eT m) kB := by
  refine Den.bind (u := fun (x : V) (_ : L2.St) (H : Hp) (Q : Bool → Hp → Prop) => ∃ k, x = .bl k ∧ Q k H) (f := fT) back_B h ?_
  intro H0 σ ρ F H z d x Qd Xd Q S ra hm hq hx
  cases d with
  | bl t =>
    cases ra
    exact ⟨t, rfl, S.same (R := kB) hm rfl hq⟩
  | _ => exact False.elim hm
theorem xt_cmp {op : CmpOp} {r : R2} {f : D → D → E D} (h : OpR X (compareOp op) r) (ho : Op2 C W r f (kR C)) (ha : XP X C W a ma) (hb : XP X C W b mb) (hm : behindInMarks op b = false) : XT X C W (.Compare a [op] [b] pos) (eT (eb ma fun x => eb mb fun y => f x y)) := by
  obtain ⟨ta, a1, a2⟩ := ha.ex
  obtain ⟨tb, b1, b2⟩ := hb.ex
  exact ⟨_, pt_cmpR h a1 b1 hm, den_test (den_op back_R a2 b2 ho)⟩

/-! ### the operators -/
theorem o_sub : Op2 C W (rI0 fun i j => .int (i - j)) (fun a b => eP (dSub a b)) (kR C) := op2_flat fun F H x y dx dy Q Qd s rx ry hp hq => by
  cases dx <;> cases dy <;> first | exact hp.elim | exact ⟨_, _, rx.int, ry.int, hq _ _ hp (.int _)⟩
theorem bits_le {i : Int} {n : Nat} (h : i.natAbs < 2 ^ n) (hn : 0 < n) : Builtin.Int.intBits i ≤ n := by
  have := PySem.Flt.log2_lt_of hn h
  unfold Builtin.Int.intBits
  split <;> omega
theorem op_mulG : OpR X (binaryOp .Mult) (rI MulC fun i j => .int (i * j)) := opI fun i j t u s Q E hc q => by
  refine mul_int q ?_
  rcases hc with h | h | h
  · exact IntMulOk.of_left (Nat.le_trans (bits_le h (by omega)) (by omega))
  · exact IntMulOk.of_right (Nat.le_trans (bits_le h (by omega)) (by omega))
  · exact h.ok
theorem o_mul : Op2 C W (rI MulC fun i j => .int (i * j)) (fun a b => eP (dMul a b)) (kR C) := op2_flat fun F H x y dx dy Q Qd s rx ry hp hq => by
  cases dx <;> cases dy <;> first | exact hp.elim | exact ⟨_, _, rx.int, ry.int, hp.1, hq _ _ hp.2 (.int _)⟩
theorem op_divG : OpR X (binaryOp .FloorDiv) (rI (fun _ j => j ≠ 0 ∧ j.natAbs.log2 < 9000) fun i j => .int (i.fdiv j)) :=
  opI fun i j t u s Q E hc q => floordiv_int hc.1 q (.inl (PyProof.noPylong_of_log2 hc.2))
theorem o_div : Op2 C W (rI (fun _ j => j ≠ 0 ∧ j.natAbs.log2 < 9000) fun i j => .int (i.fdiv j)) (fun a b => eP (dDiv a b)) (kR C) := op2_flat fun F H x y dx dy Q Qd s rx ry hp hq => by
  cases dx <;> cases dy <;> first | exact hp.elim | exact ⟨_, _, rx.int, ry.int, hp.1, hq _ _ hp.2 (.int _)⟩
theorem o_mod : Op2 C W (rI (fun _ j => j ≠ 0) fun i j => .int (i.fmod j)) (fun a b => eP (dMod a b)) (kR C) := op2_flat fun F H x y dx dy Q Qd s rx ry hp hq => by
  cases dx <;> cases dy <;> first | exact hp.elim | exact ⟨_, _, rx.int, ry.int, hp.1, hq _ _ hp.2 (.int _)⟩
theorem op_powG : OpR X (binaryOp .Pow) (rI (fun i j => 0 ≤ j ∧ (Builtin.Int.intBits i : Int) * j ≤ 2 ^ 27) fun i j => .int (i ^ j.toNat)) :=
  opI fun i j t u s Q E hc q => pow_int hc.1 hc.2 q
theorem o_pow : Op2 C W (rI (fun i j => 0 ≤ j ∧ (Builtin.Int.intBits i : Int) * j ≤ 2 ^ 27) fun i j => .int (i ^ j.toNat)) (fun a b => eP (dPow a b)) (kR C) := op2_flat fun F H x y dx dy Q Qd s rx ry hp hq => by
  cases dx <;> cases dy <;> first | exact hp.elim | exact ⟨_, _, rx.int, ry.int, hp.1, hq _ _ hp.2 (.int _)⟩
def rAdd4 (K : PySem.W.Frag) : R2 := fun x y H Q => rI0 (fun i j => .int (i + j)) x y H Q ∨ (∃ i j, x = .str i ∧ y = .str j ∧ i.length + j.length ≤ sizeLine ∧ Q (.str (i ++ j)) H) ∨ rCat x y H Q ∨ rCatA K x y H Q
theorem op_add4 : OpR X (binaryOp .Add) (rAdd4 X.K) := op_add.or (op_add_str.or (op_cat.or op_catA))
theorem o_add : Op2 C W (rAdd4 C.K) (fun a b => eP (dAdd a b)) (kR C) := fun σ ρ F H z x y dx dy Qd Xd Q S rx ry hm hq hx => by
  cases dx <;> cases dy <;> first | exact hm.elim | skip
  · exact .inl ⟨_, _, rx.int, ry.int, S.same (R := kR C) hm (.int _) hq⟩
  · exact .inr (.inl ⟨_, _, rx.str, ry.str, line_le hm.1, S.same (R := kR C) hm.2 (.str _) hq⟩)
  · obtain ⟨p, xs, e1, e2, e3, e4⟩ := rx.lst S.sub
    obtain ⟨q, ys, f1, f2, f3, f4⟩ := ry.lst S.sub
    refine .inr (.inr (.inl ⟨p, q, xs, ys, e1, f1, e2, f2, by rw [RpL.length e3, RpL.length f3]; exact line_le hm.1, fun n hn => ?_⟩))
    have hF : F n = none := S.free hn
    have hr := RpL.mono (Same.new (o := .lst (xs ++ ys)) hF) (RpL.append e3 f3)
    exact hq _ ρ z _ _ _ hm.2 (S.newF hn ngL) (Same.new hF) (Keep.newF hn) Ole.refl (.lst (S.npa hn) upd_same hr)
  · rename_i ds1 ds2
    obtain ⟨p, xs, e1, e2, e3⟩ := rx.tup S.sub
    obtain ⟨q, ys, f1, f2, f3⟩ := ry.tup S.sub
    refine .inr (.inr (.inr ⟨p, q, xs, ys, e1, f1, e2, f2, by rw [RpL.length e3, RpL.length f3]; exact line_le hm.1, fun hz => ?_, fun _ hz => ?_, fun _ _ n hn => ?_⟩))
    · subst hz
      cases e3
      have ry' : C.R F (.ref q) (.tup ds2) := by
        have h := ry.fro fun _ z => z
        rw [f1] at h; exact h
      exact S.same (R := kR C) hm.2 ry' hq
    · subst hz
      cases f3
      have rx' : C.R F (.ref p) (.tup ds1) := by
        have h := rx.fro fun _ z => z
        rw [e1] at h; exact h
      have hm2 := hm.2
      rw [List.append_nil] at hm2
      exact S.same (R := kR C) hm2 rx' hq
    · exact S.newT hn (RpL.append e3 f3) hm.2 hq
theorem o_cat : Op2 C W (rAdd4 C.K) (fun a b => eP (dCat a b)) (RO C) := fun σ ρ F H z x y dx dy Qd Xd Q S rx ry hm hq hx => by
  cases dx <;> cases dy <;> first | exact hm.elim | skip
  obtain ⟨p, xs, e1, e2, e3, e4⟩ := rx.lst S.sub
  obtain ⟨q, ys, f1, f2, f3, f4⟩ := ry.lst S.sub
  exact .inr (.inr (.inl ⟨p, q, xs, ys, e1, f1, e2, f2, by rw [RpL.length e3, RpL.length f3]; exact line_le hm.1, fun n hn => S.newL hn (RpL.append e3 f3) hm.2 hq⟩))
def rEq2 (K : PySem.W.Frag) : R2 := fun x y H Q => rEq x y H Q ∨ rEqD K x y H Q
def rNe2 (K : PySem.W.Frag) : R2 := fun x y H Q => rNe x y H Q ∨ rNeD K x y H Q
theorem op_eq2 (hu : X.A.units + 65 < cLine) : OpR X (compareOp .Eq) (rEq2 X.K) := op_eq.or (op_eqD (by omega))
theorem op_ne2 (hu : X.A.units + 65 < cLine) : OpR X (compareOp .NotEq) (rNe2 X.K) := op_ne.or (op_neD (by omega))
theorem eqG_to {F H : Hp} {x y : V} {dx dy : D} {Qd : Bool → Prop} (s : Sub F H) (rx : RT C F H x dx) (ry : RT C F H y dy) (h : dEqG dx dy Qd) :
    Dp C.K H x dx.py ∧ Dp C.K H y dy.py ∧ SeqAt.shaped dx.py = true ∧ SeqAt.shaped dy.py = true ∧ Qd (PyData.eqv dx.py dy.py) := by
  obtain ⟨⟨h1, h2, h3, h4⟩, h5⟩ := h
  exact ⟨rx.dp s h1, ry.dp s h2, h3, h4, h5⟩
theorem o_eq : Op2 C W (rEq2 C.K) (fun a b => eP (dEq a b)) (kR C) := op2_flat fun F H x y dx dy Q Qd s rx ry hp hq => by
  have gen : dEqG dx dy (fun t => Qd (.bl t)) → rEq2 C.K x y H Q := fun h => by
    obtain ⟨h1, h2, h3, h4, h5⟩ := eqG_to s rx ry h
    exact .inr ⟨_, _, h1, h2, h3, h4, hq _ _ h5 (.bl _)⟩
  cases dx <;> cases dy <;> first
    | exact gen hp
    | (refine .inl ?_
       first
         | (rw [rx.int, ry.int]; exact ⟨rfl, hq _ _ hp (by rw [dec_int]; exact .bl _)⟩)
         | (rw [rx.int, ry.int]; refine ⟨rfl, ?_⟩; rw [dec_int]; exact hq _ _ hp (.bl _))
         | (rw [rx.str, ry.str]; refine ⟨rfl, ?_⟩; rw [dec_str]; exact hq _ _ hp (.bl _))
         | (rw [rx.bl, ry.bl]; refine ⟨rfl, ?_⟩; rw [dec_bl]; exact hq _ _ hp (.bl _)))
theorem o_ne : Op2 C W (rNe2 C.K) (fun a b => eP (dNe a b)) (kR C) := op2_flat fun F H x y dx dy Q Qd s rx ry hp hq => by
  have gen : dEqG dx dy (fun t => Qd (.bl (!t))) → rNe2 C.K x y H Q := fun h => by
    obtain ⟨h1, h2, h3, h4, h5⟩ := eqG_to s rx ry h
    exact .inr ⟨_, _, h1, h2, h3, h4, hq _ _ h5 (.bl _)⟩
  cases dx <;> cases dy <;> first
    | exact gen hp
    | (refine .inl ?_
       first
         | (rw [rx.int, ry.int]; refine ⟨rfl, ?_⟩; rw [dec_int]; exact hq _ _ hp (.bl _))
         | (rw [rx.str, ry.str]; refine ⟨rfl, ?_⟩; rw [dec_str]; exact hq _ _ hp (.bl _))
         | (rw [rx.bl, ry.bl]; refine ⟨rfl, ?_⟩; rw [dec_bl]; exact hq _ _ hp (.bl _)))
def rLt2 : R2 := fun x y H Q => rI0 (fun i j => .bl (decide (i < j))) x y H Q ∨ (∃ i j, x = .str i ∧ y = .str j ∧ Q (.bl (decide (i.cps.toList < j.cps.toList))) H)
theorem op_lt2 : OpR X (compareOp .Lt) rLt2 := op_lt.or op_lt_str
theorem o_lt : Op2 C W rLt2 (fun a b => eP (dLt a b)) (kR C) := op2_flat fun F H x y dx dy Q Qd s rx ry hp hq => by
  cases dx <;> cases dy <;> first | exact hp.elim | exact .inl ⟨_, _, rx.int, ry.int, hq _ _ hp (.bl _)⟩ | exact .inr ⟨_, _, rx.str, ry.str, hq _ _ hp (.bl _)⟩
theorem o_le : Op2 C W (rI0 fun i j => .bl (decide (i ≤ j))) (fun a b => eP (dLe a b)) (kR C) := op2_flat fun F H x y dx dy Q Qd s rx ry hp hq => by
  cases dx <;> cases dy <;> first | exact hp.elim | exact ⟨_, _, rx.int, ry.int, hq _ _ hp (.bl _)⟩
theorem o_gt : Op2 C W (rI0 fun i j => .bl (decide (j < i))) (fun a b => eP (dGt a b)) (kR C) := op2_flat fun F H x y dx dy Q Qd s rx ry hp hq => by
  cases dx <;> cases dy <;> first | exact hp.elim | exact ⟨_, _, rx.int, ry.int, hq _ _ hp (.bl _)⟩
theorem o_ge : Op2 C W (rI0 fun i j => .bl (decide (j ≤ i))) (fun a b => eP (dGe a b)) (kR C) := op2_flat fun F H x y dx dy Q Qd s rx ry hp hq => by
  cases dx <;> cases dy <;> first | exact hp.elim | exact ⟨_, _, rx.int, ry.int, hq _ _ hp (.bl _)⟩
theorem RT.isNon {F H : Hp} {v : V} {d : D} (h : RT C F H v d) : decide (v = .non) = (match d with | .non => true | _ => false) := by
  rcases h with h | ⟨_, _, e1, _, _, e2⟩
  · cases h <;> rfl
  · subst e1
    cases d <;> first | exact e2.elim | rfl
theorem o_isN : Op2 C W (fun x y H Q => y = .non ∧ Q (.bl (decide (x = .non))) H) (fun a b => eP (dIsN a b)) (kR C) := op2_flat fun F H x y dx dy Q Qd s rx ry hp hq => by
  cases dy
  all_goals first
    | (refine ⟨ry.non, ?_⟩; rw [rx.isNon]; exact hq _ _ (by cases dx <;> exact hp) (.bl _))
    | (cases dx <;> exact False.elim hp)
theorem o_notN : Op2 C W (fun x y H Q => y = .non ∧ Q (.bl (!decide (x = .non))) H) (fun a b => eP (dNotN a b)) (kR C) := op2_flat fun F H x y dx dy Q Qd s rx ry hp hq => by
  cases dy
  all_goals first
    | (refine ⟨ry.non, ?_⟩; rw [rx.isNon]; exact hq _ _ (by cases dx <;> exact hp) (.bl _))
    | (cases dx <;> exact False.elim hp)
def rIn2 (K : PySem.W.Frag) : R2 := fun x y H Q => (∃ i j, x = .str i ∧ y = .str j ∧ Q (.bl (!(Builtin.Str.occurrences j i 0 j.length 1).isEmpty)) H) ∨ rInD K x y H Q
def rNotIn2 (K : PySem.W.Frag) : R2 := fun x y H Q => (∃ i j, x = .str i ∧ y = .str j ∧ Q (.bl (!(!(Builtin.Str.occurrences j i 0 j.length 1).isEmpty))) H) ∨ rNotInD K x y H Q
theorem op_in2 (hu : X.A.units + 65 < cLine) : OpR X (compareOp .In) (rIn2 X.K) := op_in_str.or (op_inD hu)
theorem o_in : Op2 C W (rIn2 C.K) (fun a b => eP (dIn a b)) (kR C) := op2_flat fun F H x y dx dy Q Qd s rx ry hp hq => by
  cases dy <;> first
    | (cases dx <;> first | exact hp.elim | exact .inl ⟨_, _, rx.str, ry.str, hq _ _ hp (.bl _)⟩)
    | skip
  rename_i ds
  have hp' : (dx.isPy = true ∧ isPyL ds = true ∧ SeqAt.shaped dx.py = true ∧ SeqAt.shaped (.list (pyL ds)) = true) ∧ Qd (.bl ((pyL ds).any fun z => PyData.eqv z dx.py)) := by cases dx <;> exact hp
  obtain ⟨⟨h1, h2, h3, h4⟩, h5⟩ := hp'
  exact .inr ⟨_, _, rx.dp s h1, ry.dp s h2, h3, h4, hq _ _ h5 (.bl _)⟩
theorem o_neg : Op1 C W (rU fun i => .int (-i)) (fun a => eP (dNeg a)) (kR C) := op1_flat fun F H x dx Q Qd s rx hp hq => by
  cases dx <;> first | exact hp.elim | exact ⟨_, rx.int, hq _ _ hp (.int _)⟩
theorem xe_neg (ha : XP X C W a ma) : XE X C W (.UnaryOp .USub a pos) (eb ma fun x => eP (dNeg x)) := by
  obtain ⟨ta, a1, a2⟩ := ha.ex
  exact ⟨_, pe_un un_neg a1, den_un (β := V) (r := rU fun i => .int (-i)) back_R a2 o_neg⟩
/-- not, of a bool -/
theorem xe_not (ha : XP X C W a ma) : XE X C W (.UnaryOp .Not a pos) (eb ma fun x => eP (dNot x)) := by
  obtain ⟨ta, a1, a2⟩ := ha.ex
  refine ⟨_, pe_not a1, ?_⟩
  refine den_un (β := V) (r := fun x H (Q : VK) => ∃ c, x = .bl c ∧ Q (.bl (!c)) H) (f := fun x => eP (dNot x)) back_R a2 (op1_flat fun F H x dx Q Qd s rx hp hq => ?_)
  cases dx <;> first | exact hp.elim | exact ⟨_, rx.bl, hq _ _ hp (.bl _)⟩

/-! ### truth, tests -/
theorem o_tru : Op1 C W (fun x H Q => ∃ k, TruV C.K x H k ∧ Q k H) (fun a => eP (dTru a)) kB := op1_test fun F H x dx Q Qd s rx hp hq => by
  cases dx <;> first | exact hp.elim | skip
  · rw [rx.non]; exact ⟨_, rfl, hq _ hp⟩
  · rw [rx.bl]; exact ⟨_, rfl, hq _ hp⟩
  · rw [rx.int]; exact ⟨_, rfl, hq _ hp⟩
  · rw [rx.str]; exact ⟨_, ⟨line_le hp.1, rfl⟩, hq _ hp.2⟩
  · rename_i ds
    obtain ⟨p, xs, e1, e2, e3, e4⟩ := rx.lst s
    subst e1
    have e : (!xs.isEmpty) = !ds.isEmpty := by cases e3 <;> rfl
    exact ⟨_, .inl ⟨xs, .inl (.inl e2), e.symm⟩, hq _ hp⟩
  · rename_i ds
    obtain ⟨p, xs, e1, e2, e3⟩ := rx.tup s
    subst e1
    have e : (!xs.isEmpty) = !ds.isEmpty := by cases e3 <;> rfl
    exact ⟨_, .inr (.inl ⟨xs, e2, e.symm⟩), hq _ hp⟩
/-- any value, by its truth -/
theorem xt_tru (hk : X.K = C.K) (ha : XP X C W a ma) (he : ∀ whole, isTrue a X.env whole = (do let v ← whole; standAt a.pos; holding [v] (truthy v)) := by intro _; rfl) : XT X C W a (eb ma fun x => eP (dTru x)) := by
  obtain ⟨ta, a1, a2⟩ := ha.ex
  refine ⟨_, pt_truth a1 he, ?_⟩
  rw [hk]
  exact den_un (r := fun x H (Q : Bool → Hp → Prop) => ∃ k, TruV C.K x H k ∧ Q k H) back_B a2 o_tru
theorem xt_not {mt : E Bool} (ha : XT X C W a mt) : XT X C W (.UnaryOp .Not a pos) (eb mt fun t => ep (!t)) := by
  obtain ⟨ta, a1, a2⟩ := ha.ex
  refine ⟨_, pt_not a1, ?_⟩
  exact Den.bind (u := fun (c : Bool) (_ : L2.St) (H : Hp) (Q : Bool → Hp → Prop) => Q (!c) H) (f := fun t => ep (!t)) back_B a2 fun H0 σ ρ F H z t c Qd Xd Q S ra hm hq hx => by
    cases ra
    exact S.same (R := kB) hm rfl hq
def eIf {α : Type} (mt : E Bool) (ma mb : E α) : E α := eb mt fun t => if t = true then ma else mb
theorem den_if {α β : Type} {tt : TT} {ta tb : L2.St → Hp → (β → Hp → Prop) → Prop} {mt : E Bool} {m1 m2 : E α} {R : Hp → Hp → Hp → β → α → Prop} (hB : Back C R) (ht : Den C W tt mt kB) (h1 : Den C W ta m1 R) (h2 : Den C W tb m2 R) :
    Den C W (fun σ H Q => tt σ H fun c H1 => if c = true then ta σ H1 Q else tb σ H1 Q) (eIf mt m1 m2) R :=
  Den.bind (u := fun (c : Bool) σ H Q => if c = true then ta σ H Q else tb σ H Q) (f := fun t => if t = true then m1 else m2) hB ht fun H0 σ ρ F H z t c Qd Xd Q S ra hm hq hx => by
    have ec : c = t := ra
    rw [ec]
    cases t with
    | true => exact h1 σ ρ F H z Qd Xd Q S hm hq hx
    | false => exact h2 σ ρ F H z Qd Xd Q S hm hq hx
theorem xe_if {mt : E Bool} {m1 m2 : E D} {c : Expr} (hc : XT X C W c mt) (ha : XE X C W a m1) (hb : XE X C W b m2) : XE X C W (.IfExp c a b pos) (eIf mt m1 m2) := by
  obtain ⟨tc, c1, c2⟩ := hc.ex
  obtain ⟨ta, a1, a2⟩ := ha.ex
  obtain ⟨tb, b1, b2⟩ := hb.ex
  exact ⟨_, pe_ifExp c1 a1 b1, den_if back_R c2 a2 b2⟩
theorem xo_if {mt : E Bool} {m1 m2 : E (List D)} {c : Expr} (hc : XT X C W c mt) (ha : XO X C W a m1) (hb : XO X C W b m2) : XO X C W (.IfExp c a b pos) (eIf mt m1 m2) := by
  obtain ⟨tc, c1, c2⟩ := hc.ex
  obtain ⟨ta, a1, a2⟩ := ha.ex
  obtain ⟨tb, b1, b2⟩ := hb.ex
  exact ⟨_, pe_ifExp c1 a1 b1, den_if back_O c2 a2 b2⟩
def eAnd (m1 m2 : E Bool) : E Bool := eb m1 fun t => if t = true then m2 else ep false
def eOr (m1 m2 : E Bool) : E Bool := eb m1 fun t => if t = true then ep true else m2
theorem den_and {t u : TT} {m1 m2 : E Bool} (h1 : Den C W t m1 kB) (h2 : Den C W u m2 kB) : Den C W (tAnd t u) (eAnd m1 m2) kB :=
  Den.bind (u := fun (c : Bool) σ H Q => if c = true then u σ H Q else Q false H) (f := fun t => if t = true then m2 else ep false) back_B h1 fun H0 σ ρ F H z t c Qd Xd Q S ra hm hq hx => by
    have ec : c = t := ra
    rw [ec]
    cases t with
    | true => exact h2 σ ρ F H z Qd Xd Q S hm hq hx
    | false => exact S.same (R := kB) hm rfl hq
theorem den_or {t u : TT} {m1 m2 : E Bool} (h1 : Den C W t m1 kB) (h2 : Den C W u m2 kB) : Den C W (tOr t u) (eOr m1 m2) kB :=
  Den.bind (u := fun (c : Bool) σ H Q => if c = true then Q true H else u σ H Q) (f := fun t => if t = true then ep true else m2) back_B h1 fun H0 σ ρ F H z t c Qd Xd Q S ra hm hq hx => by
    have ec : c = t := ra
    rw [ec]
    cases t with
    | false => exact h2 σ ρ F H z Qd Xd Q S hm hq hx
    | true => exact S.same (R := kB) hm rfl hq
section
variable {rest : List Expr} {m1 m2 : E Bool}
theorem xw_and1 (ha : XT X C W a m1) : XW X C W (.BoolOp .And [a] pos) m1 := by
  obtain ⟨ta, a1, a2⟩ := ha.ex
  exact ⟨_, pw_and1 a1, a2⟩
theorem xw_or1 (ha : XT X C W a m1) : XW X C W (.BoolOp .Or [a] pos) m1 := by
  obtain ⟨ta, a1, a2⟩ := ha.ex
  exact ⟨_, pw_or1 a1, a2⟩
theorem xw_and (ha : XT X C W a m1) (hb : XW X C W (.BoolOp .And (b :: rest) pos) m2) : XW X C W (.BoolOp .And (a :: b :: rest) pos) (eAnd m1 m2) := by
  obtain ⟨ta, a1, a2⟩ := ha.ex
  obtain ⟨tb, b1, b2⟩ := hb.ex
  exact ⟨_, pw_and a1 b1, den_and a2 b2⟩
theorem xw_or (ha : XT X C W a m1) (hb : XW X C W (.BoolOp .Or (b :: rest) pos) m2) : XW X C W (.BoolOp .Or (a :: b :: rest) pos) (eOr m1 m2) := by
  obtain ⟨ta, a1, a2⟩ := ha.ex
  obtain ⟨tb, b1, b2⟩ := hb.ex
  exact ⟨_, pw_or a1 b1, den_or a2 b2⟩
theorem XW.t (ha : XW X C W a m1) : XT X C W a m1 := by
  obtain ⟨ta, a1, a2⟩ := ha.ex
  exact ⟨_, a1.pt, a2⟩
end
/-- no computation: such a value is not meant here -/
def eStuck {α : Type} : E α := fun _ _ _ _ => False
/-- and, or as values: bools ahead, the last one any value -/
def fAndV (m2 : E D) : D → E D
  | .bl t => if t = true then m2 else ep (.bl false)
  | _ => eStuck
def fOrV (m2 : E D) : D → E D
  | .bl t => if t = true then ep (.bl true) else m2
  | _ => eStuck
def eAndV (m1 m2 : E D) : E D := eb m1 (fAndV m2)
def eOrV (m1 m2 : E D) : E D := eb m1 (fOrV m2)
theorem den_andV {t u : TE} {m1 m2 : E D} (h1 : Den C W t m1 (kR C)) (h2 : Den C W u m2 (kR C)) : Den C W (tAndV t u) (eAndV m1 m2) (kR C) := by
  refine Den.bind (u := fun (x : V) σ H (Q : VK) => ∃ c, x = .bl c ∧ if c = true then u σ H Q else Q (.bl false) H) (f := fAndV m2) back_R h1 ?_
  intro H0 σ ρ F H z d x Qd Xd Q S ra hm hq hx
  cases d with
  | bl t =>
    cases ra
    refine ⟨t, rfl, ?_⟩
    cases t with
    | true => exact h2 σ ρ F H z Qd Xd Q S hm hq hx
    | false => exact S.same (R := kR C) hm (.bl _) hq
  | _ => exact False.elim hm
section
variable {rest : List Expr} {m1 m2 : E D} {op : BoolOp}
theorem xe_one (ha : XE X C W a m1) : XE X C W (.BoolOp op [a] pos) m1 := by
  obtain ⟨ta, a1, a2⟩ := ha.ex
  exact ⟨_, pe_one a1, a2⟩
theorem xe_and (ha : XE X C W a m1) (hb : XE X C W (.BoolOp .And (b :: rest) pos) m2) : XE X C W (.BoolOp .And (a :: b :: rest) pos) (eAndV m1 m2) := by
  obtain ⟨ta, a1, a2⟩ := ha.ex
  obtain ⟨tb, b1, b2⟩ := hb.ex
  exact ⟨_, pe_and a1 b1, den_andV a2 b2⟩
end
end
end DL

namespace DL
open PySem PySem.Spec PyProof.Rows L2

/-! ## statements -/
inductive Fl where
  | nx | ret (d : D) | retO (ds : List D) | bk | ct
/-- what is wanted of a statement's end -/
def EndOk (C : CC) (Dn : Ends) (H0 : Hp) (fl : Fl) (ρ : Rho) (z : Zs) (F H : Hp) : Prop := match fl with
  | .nx => ∀ σ, StOk C σ ρ F H z → Dn.nx σ H
  | .bk => ∀ σ, StOk C σ ρ F H z → Dn.bk σ H
  | .ct => ∀ σ, StOk C σ ρ F H z → Dn.ct σ H
  | .ret d => ∀ σ v, StOk C σ ρ F H z → C.R F v d → Dn.rt v H
  | .retO ds => ∀ σ v, StOk C σ ρ F H z → (∃ a xs, v = .ref a ∧ H a = some (.lst xs) ∧ F a = none ∧ C.H0 a = none ∧ some a ≠ C.pa ∧ C.RL F xs ds ∧ a ∉ C.hid) → Dn.rt v H
def DenS (C : CC) (W : WX) (t : TS) (s : E Fl) : Prop :=
  ∀ (σ : L2.St) (ρ : Rho) (F H : Hp) (z : Zs) (Qd : Fl → Rho → Zs → Prop) (Xd : Er → Rho → Zs → Prop) (Dn : Ends), StOk C σ ρ F H z → s ρ Qd Xd z →
    (∀ fl ρ' z' F' H', Qd fl ρ' z' → Same F F' → EndOk C Dn H fl ρ' z' F' H') →
    (∀ e ρ' z' cls dd σ' F' H', Xd e ρ' z' → StOk C σ' ρ' F' H' z' → Same F F' → ExR C F' H' e cls dd → W cls dd σ' H') → t Dn σ H
structure XS (X : Cx) (C : CC) (W : WX) (st : Stmt) (s : E Fl) : Prop where
  ex : ∃ t, PS X st t ∧ DenS C W t s
structure XSs (X : Cx) (C : CC) (W : WX) (st : List Stmt) (s : E Fl) : Prop where
  ex : ∃ t, PSs X st t ∧ DenS C W t s

def fSeq (s2 : E Fl) : Fl → E Fl
  | .nx => s2
  | fl => ep fl
def sSeq (s1 s2 : E Fl) : E Fl := eb s1 (fSeq s2)
section
variable {X : Cx} {C : CC} {W : WX} {e a b c : Expr} {es : List Expr} {m ma mb mc : E D} {pos : Pos} {k : Nat} {st : Stmt} {rest body : List Stmt} {s s1 s2 : E Fl}
theorem den_seq {t u : TS} (h1 : DenS C W t s1) (h2 : DenS C W u s2) : DenS C W (tSeq t u) (sSeq s1 s2) := fun σ ρ F H z Qd Xd Dn S hm hq hx => by
  refine h1 σ ρ F H z _ Xd { Dn with nx := u Dn } S hm (fun fl ρ1 z1 F1 H1 q1 ff1 => ?_) hx
  cases fl with
  | nx =>
    intro σ1 S1
    exact h2 σ1 ρ1 F1 H1 z1 Qd Xd Dn S1 q1 (fun fl ρ' z' F' H' q ff => hq fl ρ' z' F' H' q (ff1.trans ff)) fun e ρ' z' cls dd σ' F' H' q S' ff r => hx e ρ' z' cls dd σ' F' H' q S' (ff1.trans ff) r
  | ret d => exact hq _ _ _ _ _ q1 ff1
  | retO d => exact hq _ _ _ _ _ q1 ff1
  | bk => exact hq _ _ _ _ _ q1 ff1
  | ct => exact hq _ _ _ _ _ q1 ff1
theorem xss_nil : XSs X C W [] (ep .nx) := ⟨tNext, pss_nil, fun σ ρ F H z Qd Xd Dn S hm hq hx => hq _ _ _ _ _ hm (Same.refl F) σ S⟩
theorem xss_one (h : XS X C W st s) : XSs X C W [st] s := by
  obtain ⟨t, h1, h2⟩ := h.ex
  exact ⟨t, pss_one h1, h2⟩
theorem xss_cons (h : XS X C W st s1) (hs : XSs X C W rest s2) : XSs X C W (st :: rest) (sSeq s1 s2) := by
  obtain ⟨t, h1, h2⟩ := h.ex
  obtain ⟨u, g1, g2⟩ := hs.ex
  exact ⟨_, pss_cons h1 g1, den_seq h2 g2⟩
theorem xs_pass : XS X C W (.Pass pos) (ep .nx) := ⟨tNext, ps_pass, fun σ ρ F H z Qd Xd Dn S hm hq hx => hq _ _ _ _ _ hm (Same.refl F) σ S⟩
def sIf (mt : E Bool) (s1 s2 : E Fl) : E Fl := eb mt fun t => if t = true then s1 else s2
theorem xs_if {mt : E Bool} {l1 l2 : List Stmt} {c : Expr} (hc : XT X C W c mt) (h1 : XSs X C W l1 s1) (h2 : XSs X C W l2 s2) : XS X C W (.If c l1 l2 pos) (sIf mt s1 s2) := by
  obtain ⟨tc, c1, c2⟩ := hc.ex
  obtain ⟨t, g1, g2⟩ := h1.ex
  obtain ⟨u, k1, k2⟩ := h2.ex
  refine ⟨_, ps_if c1 g1 k1, fun σ ρ F H z Qd Xd Dn S hm hq hx => ?_⟩
  refine c2 σ ρ F H z _ Xd (fun b H1 => if b = true then t Dn σ H1 else u Dn σ H1) S hm (fun bb ρ1 z1 b F1 H1 q1 S1 ff1 k1 o1 r1 => ?_) (fun e ρ' z' cls dd F' H' q S' ff r => hx e ρ' z' cls dd σ F' H' q S' ff r)
  have eb' : b = bb := r1
  rw [eb']
  cases bb with
  | true => exact g2 σ ρ1 F1 H1 z1 Qd Xd Dn S1 q1 (fun fl ρ' z' F' H' q ff => hq fl ρ' z' F' H' q (ff1.trans ff)) fun e ρ' z' cls dd σ' F' H' q S' ff r => hx e ρ' z' cls dd σ' F' H' q S' (ff1.trans ff) r
  | false => exact k2 σ ρ1 F1 H1 z1 Qd Xd Dn S1 q1 (fun fl ρ' z' F' H' q ff => hq fl ρ' z' F' H' q (ff1.trans ff)) fun e ρ' z' cls dd σ' F' H' q S' ff r => hx e ρ' z' cls dd σ' F' H' q S' (ff1.trans ff) r
def sRet (m : E D) : E Fl := eb m fun d => ep (.ret d)
def sRetO (m : E (List D)) : E Fl := eb m fun d => ep (.retO d)
theorem xs_ret (h : XE X C W e m) : XS X C W (.Return (some e) pos) (sRet m) := by
  obtain ⟨t, h1, h2⟩ := h.ex
  refine ⟨_, ps_ret h1, fun σ ρ F H z Qd Xd Dn S hm hq hx => ?_⟩
  exact h2 σ ρ F H z _ Xd Dn.rt S hm (fun d ρ1 z1 v F1 H1 q1 S1 ff1 k1 o1 r1 => hq _ _ _ _ _ q1 ff1 σ v S1 r1) (fun e ρ' z' cls dd F' H' q S' ff r => hx e ρ' z' cls dd σ F' H' q S' ff r)
theorem xs_retO {m : E (List D)} (h : XO X C W e m) : XS X C W (.Return (some e) pos) (sRetO m) := by
  obtain ⟨t, h1, h2⟩ := h.ex
  refine ⟨_, ps_ret h1, fun σ ρ F H z Qd Xd Dn S hm hq hx => ?_⟩
  exact h2 σ ρ F H z _ Xd Dn.rt S hm (fun d ρ1 z1 v F1 H1 q1 S1 ff1 k1 o1 ⟨p, xs, e1, e2, e3, e4, e5, e6⟩ => hq _ _ _ _ _ q1 ff1 σ v S1 ⟨p, xs, e1, e2, e3, S.h0None e4 e5, e5, e6, S.notHid e4⟩) (fun e ρ' z' cls dd F' H' q S' ff r => hx e ρ' z' cls dd σ F' H' q S' ff r)
/-- return of a name that owns its list -/
def sRetV (i : Nat) : E Fl := fun ρ Q _ z => match ρ[i]? with
  | some (.own ds) => Q (.retO ds) ρ z
  | _ => False
theorem xs_retV (i : Nat) {x : Str} {p : Pos} (h : PE X (.Name x p) (tVar i)) : XS X C W (.Return (some (.Name x p)) pos) (sRetV i) := by
  refine ⟨_, ps_ret h, fun σ ρ F H z Qd Xd Dn S hm hq hx => ?_⟩
  unfold sRetV at hm
  cases e : ρ[i]? with
  | none => rw [e] at hm; exact hm.elim
  | some s =>
    rw [e] at hm
    obtain ⟨v, e1, r⟩ := st_get S e
    cases s with
    | no => exact hm.elim
    | fr d => exact hm.elim
    | own ds =>
      cases v with
      | none => exact r.elim
      | some v => exact ⟨v, e1, hq _ _ _ _ _ hm (Same.refl F) σ v S r⟩
def sExpr (m : E D) : E Fl := eb m fun _ => ep .nx
theorem get_set {α : Type} {l : List α} {i j : Nat} {x y : α} (h : (l.set i x)[j]? = some y) : (j = i ∧ y = x ∧ i < l.length) ∨ (j ≠ i ∧ l[j]? = some y) := by
  by_cases hj : j = i
  · subst hj
    by_cases hl : j < l.length
    · rw [List.getElem?_set_self hl] at h
      exact .inl ⟨rfl, (Option.some.inj h).symm, hl⟩
    · rw [List.getElem?_eq_none (by rw [List.length_set]; omega)] at h; cases h
  · rw [List.getElem?_set_ne (Ne.symm hj)] at h
    exact .inr ⟨hj, h⟩
theorem StOk.setF {σ : L2.St} {ρ : Rho} {F H : Hp} {z : Zs} (S : StOk C σ ρ F H z) (i : Nat) {v : V} {d : D} (r : C.R F v d) : StOk C (σ.set i (some v)) (ρ.set i (.fr d)) F H z := by
  refine ⟨S.sub, S.f0, S.h0, S.nw, by rw [List.length_set, List.length_set]; exact S.len, fun j w s e1 e2 => ?_, fun j l x y b e1 e2 e3 e4 => ?_, S.pz, S.hd, S.cs⟩
  · rcases get_set e1 with ⟨h1, h2, _⟩ | ⟨h1, h2⟩
    · rcases get_set e2 with ⟨g1, g2, _⟩ | ⟨g1, g2⟩
      · subst h2 g2; exact r
      · exact absurd h1 g1
    · rcases get_set e2 with ⟨g1, g2, _⟩ | ⟨g1, g2⟩
      · exact absurd g1 h1
      · exact S.env j w s h2 g2
  · rcases get_set e1 with ⟨_, h2, _⟩ | ⟨h1, h2⟩
    · cases h2
    · rcases get_set e2 with ⟨_, g2, _⟩ | ⟨g1, g2⟩
      · cases g2
      · rcases get_set e3 with ⟨k1, _⟩ | ⟨_, k2⟩
        · exact absurd k1 h1
        · rcases get_set e4 with ⟨k1, _⟩ | ⟨_, k3⟩
          · exact absurd k1 g1
          · exact S.apart j l x y b h2 g2 k2 k3
theorem StOk.setO {σ : L2.St} {ρ : Rho} {F H : Hp} {z : Zs} (S : StOk C σ ρ F H z) (i : Nat) {a : Addr} {xs : List V} {ds : List D} (ha : H a = some (.lst xs)) (hf : F a = none) (h0 : C.H0 a = none) (np : some a ≠ C.pa) (r : C.RL F xs ds)
    (no : ∀ (j : Nat) ys, ρ[j]? = some (.own ys) → σ[j]? ≠ some (some (.ref a))) (nh : a ∉ C.hid) : StOk C (σ.set i (some (.ref a))) (ρ.set i (.own ds)) F H z := by
  refine ⟨S.sub, S.f0, S.h0, S.nw, by rw [List.length_set, List.length_set]; exact S.len, fun j w s e1 e2 => ?_, fun j l x y b e1 e2 e3 e4 => ?_, S.pz, S.hd, S.cs⟩
  · rcases get_set e1 with ⟨h1, h2, _⟩ | ⟨h1, h2⟩
    · rcases get_set e2 with ⟨g1, g2, _⟩ | ⟨g1, g2⟩
      · subst h2 g2; exact ⟨a, xs, rfl, ha, hf, h0, np, r, nh⟩
      · exact absurd h1 g1
    · rcases get_set e2 with ⟨g1, g2, _⟩ | ⟨g1, g2⟩
      · exact absurd g1 h1
      · exact S.env j w s h2 g2
  · rcases get_set e1 with ⟨h1, h2, _⟩ | ⟨h1, h2⟩
    · rcases get_set e2 with ⟨g1, g2, _⟩ | ⟨g1, g2⟩
      · rw [h1, g1]
      · rcases get_set e3 with ⟨_, k2, _⟩ | ⟨k1, _⟩
        · rcases get_set e4 with ⟨k3, _⟩ | ⟨_, k4⟩
          · exact absurd k3 g1
          · cases k2
            exact absurd k4 (no l y g2)
        · exact absurd h1 k1
    · rcases get_set e2 with ⟨g1, g2, _⟩ | ⟨g1, g2⟩
      · rcases get_set e4 with ⟨_, k2, _⟩ | ⟨k1, _⟩
        · rcases get_set e3 with ⟨k3, _⟩ | ⟨_, k4⟩
          · exact absurd k3 h1
          · cases k2
            exact absurd k4 (no j x h2)
        · exact absurd g1 k1
      · rcases get_set e3 with ⟨k1, _⟩ | ⟨_, k2⟩
        · exact absurd k1 h1
        · rcases get_set e4 with ⟨k1, _⟩ | ⟨_, k3⟩
          · exact absurd k1 g1
          · exact S.apart j l x y b h2 g2 k2 k3
/-- a target: what storing a value makes of the slots -/
abbrev Tg := D → Rho → (Rho → Prop) → Prop
/-- the target's reading g does what tg says; it stores at none but the slots is -/
def DenG (C : CC) (g : TG) (is : List Nat) (tg : Tg) : Prop := ∀ (σ : L2.St) (ρ : Rho) (F H : Hp) (z : Zs) (v : V) (d : D) (Qd : Rho → Prop) (Q : L2.St → Hp → Prop), StOk C σ ρ F H z → C.R F v d → tg d ρ Qd →
  (∀ σ' ρ', Qd ρ' → StOk C σ' ρ' F H z → (∀ j, j ∉ is → σ'[j]? = σ[j]?) ∧ σ'.length = σ.length → Ole ρ' ρ → Q σ' H) → g v σ H Q
structure XG (X : Cx) (C : CC) (t : Expr) (is : List Nat) (tg : Tg) : Prop where
  ex : ∃ g, PG X t g ∧ DenG C g is tg
abbrev Tgs := List D → Rho → (Rho → Prop) → Prop
def DenGs (C : CC) (g : TGs) (is : List Nat) (tg : Tgs) : Prop := ∀ (σ : L2.St) (ρ : Rho) (F H : Hp) (z : Zs) (vs : List V) (ds : List D) (Qd : Rho → Prop) (Q : L2.St → Hp → Prop), StOk C σ ρ F H z → C.RL F vs ds → tg ds ρ Qd →
  (∀ σ' ρ', Qd ρ' → StOk C σ' ρ' F H z → (∀ j, j ∉ is → σ'[j]? = σ[j]?) ∧ σ'.length = σ.length → Ole ρ' ρ → Q σ' H) → g vs σ H Q
structure XGs (X : Cx) (C : CC) (ts : List Expr) (is : List Nat) (tg : Tgs) : Prop where
  ex : ∃ g, PGs X ts g ∧ DenGs C g is tg
def gN (i : Nat) : Tg := fun d ρ Q => Q (ρ.set i (.fr d))
def gNl : Tgs := fun ds ρ Q => ds = [] ∧ Q ρ
def gCn (t : Tg) (u : Tgs) : Tgs := fun ds ρ Q => match ds with
  | d :: r => t d ρ fun ρ' => u r ρ' Q
  | [] => False
def gTp (n : Nat) (u : Tgs) : Tg := fun d ρ Q => match d with
  | .tup ds => ds.length = n ∧ u ds ρ Q
  | .lst ds => ds.length = n ∧ u ds ρ Q
  | _ => False
/-- (a, b, ..) = a tuple or a list of that length -/
def gSq (K : PySem.W.Frag) (n : Nat) (t : TGs) : TG := fun v σ H Q => ∃ a xs, v = .ref a ∧ (SqT K H a xs ∨ SqL K H a xs) ∧ xs.length = n ∧ t xs σ H Q
theorem pg_sq {es : List Expr} {k : Nat} {t : TGs} {n : Nat} (hc : X.calm = true) (h : PGs X es t)
    (hn : (assignEach es X.env).length = n := by rfl) (hst : (assignEach es X.env).findIdx? (·.1) = none := by rfl) : PG X (.Tuple es k pos) (gSq X.K n t) := by
  refine ⟨fun pins s σ H v u Q I r hw => ?_⟩
  obtain ⟨a, xs, e1, hq, hl, hw⟩ := hw
  rcases hq with hq | hq
  · exact (pg_tup hc h hn hst).run pins s σ H v u Q I r ⟨a, xs, e1, hq, hl, hw⟩
  subst e1
  cases r
  obtain ⟨its, rv, ⟨o, m, e, c, _, d⟩, hz⟩ := I.list hq
  have ht : s.heap.IsList a its.toArray := ⟨o, e, c, m, d⟩
  rw [assign_Tuple]
  refine wpAny_bind (wpAny_standAt ?_)
  unfold unpack
  rw [show (assignEach es X.env).length = its.toArray.size by simp [hn, ← hl, rv.length], hst]
  refine wpAny_bind (wpAny_holding (PySem.W.kun_itemsOf (I.ok.hd hc) ht fun h' hx => ?_))
  have I1 : Inv X pins σ H { s with heap := h' } := I.kept (t' := s.toks) fun b o e => hx b o (Nat.ne_of_lt (Heap.lt_size e)) e
  exact h.run pins _ σ H xs _ Q I1 (by simpa using rv) hw
theorem den_gN (i : Nat) : DenG C (gName i) [i] (gN i) := fun σ ρ F H z v d Qd Q S r hm hq => hq _ _ hm (S.setF i r) ⟨fun j hj => List.getElem?_set_ne (fun e => hj (by rw [e]; exact List.mem_cons_self)), List.length_set⟩ ole_set
theorem xg_name (i : Nat) {x : Str} (h : PG X (.Name x pos) (gName i)) : XG X C (.Name x pos) [i] (gN i) := ⟨_, h, den_gN i⟩
theorem xgs_nil : XGs X C [] [] gNl := ⟨_, pgs_nil, fun σ ρ F H z vs ds Qd Q S r hm hq => by
  obtain ⟨e, hm⟩ := hm
  subst e
  cases r
  exact ⟨rfl, hq _ _ hm S ⟨fun j _ => rfl, rfl⟩ Ole.refl⟩⟩
theorem xgs_cons {t : Expr} {ts : List Expr} {i1 i2 : List Nat} {g : Tg} {gs : Tgs} (h : XG X C t i1 g) (hs : XGs X C ts i2 gs) (hp : (assignEach (t :: ts) X.env).map (·.2) = assign t X.env :: (assignEach ts X.env).map (·.2) := by rfl) : XGs X C (t :: ts) (i1 ++ i2) (gCn g gs) := by
  obtain ⟨g1, h1, h2⟩ := h.ex
  obtain ⟨g2, k1, k2⟩ := hs.ex
  refine ⟨_, pgs_cons h1 k1 hp, fun σ ρ F H z vs ds Qd Q S r hm hq => ?_⟩
  cases r with
  | nil => exact hm.elim
  | cons a b => exact ⟨_, _, rfl, h2 σ ρ F H z _ _ _ _ S a hm fun σ1 ρ1 q1 S1 u1 o1 => k2 σ1 ρ1 F H z _ _ Qd Q S1 b q1 fun σ' ρ' q' S' u2 o2 =>
      hq σ' ρ' q' S' ⟨fun j hj => (u2.1 j fun m => hj (List.mem_append_right _ m)).trans (u1.1 j fun m => hj (List.mem_append_left _ m)), u2.2.trans u1.2⟩ (o2.trans o1)⟩
theorem xg_tup {ts : List Expr} {gs : Tgs} {is : List Nat} {kk n : Nat} (hk : X.K = C.K) (hc : X.calm = true) (hs : XGs X C ts is gs) (hn : (assignEach ts X.env).length = n := by rfl) (hst : (assignEach ts X.env).findIdx? (·.1) = none := by rfl) : XG X C (.Tuple ts kk pos) is (gTp n gs) := by
  obtain ⟨g2, k1, k2⟩ := hs.ex
  refine ⟨_, pg_sq hc k1 hn hst, fun σ ρ F H z v d Qd Q S r hm hq => ?_⟩
  cases d with
  | tup ds =>
    cases r with
    | tup q rr =>
      refine ⟨_, _, rfl, .inl ?_, by rw [RpL.length rr]; exact hm.1, k2 σ ρ F H z _ _ Qd Q S rr hm.2 hq⟩
      rw [hk]
      exact sqtSub S.sub q
  | lst ds =>
    cases r with
    | lst nn q rr =>
      exact ⟨_, _, rfl, .inr (.inl (.inl (S.sub _ _ q ngL))), by rw [RpL.length rr]; exact hm.1, k2 σ ρ F H z _ _ Qd Q S rr hm.2 hq⟩
  | _ => exact False.elim hm
/-- target = e -/
def sAsg (m : E D) (tg : Tg) : E Fl := eb m fun d ρ Q _ z => tg d ρ fun ρ' => Q .nx ρ' z
theorem den_asg {t : TE} {g : TG} {tg : Tg} {is : List Nat} (h : Den C W t m (kR C)) (hg : DenG C g is tg) : DenS C W (tAsg t g) (sAsg m tg) := fun σ ρ F H z Qd Xd Dn S hm hq hx =>
  h σ ρ F H z _ Xd (fun x H1 => g x σ H1 Dn.nx) S hm (fun d ρ1 z1 v F1 H1 q1 S1 ff1 k1 o1 r1 => hg σ ρ1 F1 H1 z1 v d _ Dn.nx S1 r1 q1 fun σ' ρ' q' S' _ _ => hq _ _ _ _ _ q' ff1 σ' S') (fun e ρ' z' cls dd F' H' q S' ff r => hx e ρ' z' cls dd σ F' H' q S' ff r)
theorem xs_asg {tgt : Expr} {tg : Tg} {is : List Nat} (h : XE X C W e m) (hg : XG X C tgt is tg) (hs : swapsWithSole [tgt] e pos.line X.env = pure false := by rfl) (hw : swappedStores [tgt] e X.env = pure none := by rfl)
    (h1 : (assignEach [tgt] X.env).map (·.2) = [assign tgt X.env] := by rfl) : XS X C W (.Assign [tgt] e pos) (sAsg m tg) := by
  obtain ⟨t, a1, a2⟩ := h.ex
  obtain ⟨g, g1, g2⟩ := hg.ex
  exact ⟨_, ps_asg a1 g1 hs hw h1, den_asg a2 g2⟩
theorem xs_set (i : Nat) {x : Str} {pos' : Pos} (h : XE X C W e m) (hN : X.N.Nodup) (hi : X.N[i]? = some x) (hx : Loc X.env.scope x) (hs : swapsWith e (some (.Name x pos')) pos.line X.env = pure false := by rfl)
    (hf : X.fn x = true ∨ X.env.scope.names.lookup x = some .local := by first | exact .inl rfl | exact .inr rfl | assumption) : XS X C W (.Assign [.Name x pos'] e pos) (sAsg m (gN i)) := by
  obtain ⟨t, a1, a2⟩ := h.ex
  exact ⟨_, ps_set hN hi hx a1 hs hf, den_asg (g := gName i) a2 (den_gN i)⟩
/-- name = a new list that the name owns -/
def sAsgO (m : E (List D)) (i : Nat) : E Fl := eb m fun ds ρ Q _ z => Q .nx (ρ.set i (.own ds)) z
theorem xs_setO (i : Nat) {x : Str} {pos' : Pos} {m : E (List D)} (h : XO X C W e m) (hN : X.N.Nodup) (hi : X.N[i]? = some x) (hx : Loc X.env.scope x) (hs : swapsWith e (some (.Name x pos')) pos.line X.env = pure false := by rfl)
    (hf : X.fn x = true ∨ X.env.scope.names.lookup x = some .local := by first | exact .inl rfl | exact .inr rfl | assumption) : XS X C W (.Assign [.Name x pos'] e pos) (sAsgO m i) := by
  obtain ⟨t, a1, a2⟩ := h.ex
  refine ⟨_, ps_set hN hi hx a1 hs hf, fun σ ρ F H z Qd Xd Dn S hm hq hx => ?_⟩
  refine a2 σ ρ F H z _ Xd (fun x H1 => gName i x σ H1 Dn.nx) S hm (fun d ρ1 z1 v F1 H1 q1 S1 ff1 k1 o1 ⟨p, xs, e1, e2, e3, e4, e5, e6⟩ => ?_) (fun e ρ' z' cls dd F' H' q S' ff r => hx e ρ' z' cls dd σ F' H' q S' ff r)
  subst e1
  exact hq _ _ _ _ _ q1 ff1 _ (S1.setO i e2 e3 (S.h0None e4 e5) e5 e6 (S.notOwn e4 o1) (S.notHid e4))
/-- a, b = x, y -/
def sPar (i j : Nat) (ms : E (List D)) : E Fl := eb ms fun ds ρ Q _ z => match ds with
  | [d1, d2] => Q .nx ((ρ.set i (.fr d1)).set j (.fr d2)) z
  | _ => False
theorem xs_par (i j : Nat) {x y : Str} {px py pt : Pos} {kt k2 pt2} {ms : E (List D)} (hc : X.calm = true) (hN : X.N.Nodup) (hi : X.N[i]? = some x) (hj : X.N[j]? = some y) (hij : i ≠ j)
    (hx : X.env.scope.names.lookup x = some .local) (hy : X.env.scope.names.lookup y = some .local) (ha : XA X C W [a, b] ms)
    (hw : swappedStores [.Tuple [.Name x px, .Name y py] kt pt] (.Tuple [a, b] k2 pt2) X.env = pure (some [x, y]))
    (hs : swapsWithSole [.Tuple [.Name x px, .Name y py] kt pt] (.Tuple [a, b] k2 pt2) pos.line X.env = pure false := by rfl) :
    XS X C W (.Assign [.Tuple [.Name x px, .Name y py] kt pt] (.Tuple [a, b] k2 pt2) pos) (sPar i j ms) := by
  obtain ⟨t, a1, a2⟩ := ha.ex
  refine ⟨_, ps_par hc hN hi hj hij hx hy a1 hw hs, fun σ ρ F H z Qd Xd Dn S hm hq hx => ?_⟩
  refine a2 σ ρ F H z _ Xd (fun vs H1 => ∃ v w, vs = [v, w] ∧ Dn.nx ((σ.set i (some v)).set j (some w)) H1) S hm (fun ds ρ1 z1 vs F1 H1 q1 S1 ff1 k1 o1 r1 => ?_) (fun e ρ' z' cls dd F' H' q S' ff r => hx e ρ' z' cls dd σ F' H' q S' ff r)
  cases r1 with
  | nil => exact False.elim q1
  | cons r1 rr =>
    cases rr with
    | nil => exact False.elim q1
    | cons r2 rr =>
      cases rr with
      | nil => exact ⟨_, _, rfl, hq _ _ _ _ _ q1 ff1 _ ((S1.setF i r1).setF j r2)⟩
      | cons _ _ => exact False.elim q1
end
end DL

namespace DL
open PySem PySem.Spec PyProof.Rows L2

/-! ## defs: as the layer's FnOk, where no repr is under way -/
structure FnG (P : Program) (w : World) (K : PySem.W.Frag) (mg : Str → Option Value) (base : Heap) (k : Nat) (f : Addr) (fd : FuncData) (ps : List Str) (sp : Sp) : Prop where
  len : ∀ vs H Q E, sp vs H Q E → vs.length = ps.length
  run : ∀ (A : Around) (outer : List PySem.Env) (s : Shared) (H : Hp) (args : Args) (us : List Value) (vs : List V) (Q : VK) (E : XK), A.guards = some [] → Room k A → Env0 P w K mg base A outer s H →
    BindsTo s fd args (ps.zip us) → Vals vs us → sp vs H Q E → codeAny (model P w) A (.call (.ref f) args) (CR (L2.CX P w) outer P w H s Q E) s
section
variable {P : Program} {w : World} {K : PySem.W.Frag} {mg : Str → Option Value} {base : Heap}
theorem FnG.mono {j k : Nat} {f : Addr} {fd : FuncData} {ps : List Str} {sp : Sp} (F : FnG P w K mg base j f fd ps sp) (h : j ≤ k) : FnG P w K mg base k f fd ps sp :=
  ⟨F.len, fun A outer s H args us vs Q E hg hr => F.run A outer s H args us vs Q E hg (hr.mono h)⟩
/-- the rule for a def, by its body's reading -/
theorem fnG_of {k : Nat} {f : Addr} {x qual : Str} {params : Arguments} {body : List Stmt} {scope : Scope} {dvs : List V} {kws : List (Str × V)} {fd : FuncData} {N ps : List Str} {sp : Sp}
    (F : FunD K x qual params body scope dvs kws f fd) (S : FnScope N ps scope) (len : ∀ vs H Q E, sp vs H Q E → vs.length = ps.length)
    (hbody : ∀ (cdv : Value) (A : Around) (outer : List PySem.Env) (s : Shared) (H : Hp) (vs : List V) (Q : VK) (E : XK), A.guards = some [] → Room k (A.deeper (envOfC qual scope s.heap.objs.size f cdv)) → sp vs H Q E →
      ∃ t, PSs (cxOf (L2.CX P w) P w K mg base N qual scope f cdv A outer s H E) body t ∧ t { nx := fun _ H' => Q .non H', rt := Q } (L2.start N vs) H) : FnG P w K mg base (k + 1) f fd ps sp := by
  obtain ⟨oc, od, dV, kV, doc, pm, an, cdv, ct, osl, rfl, lk, hcd, _, _⟩ := F.ex
  refine ⟨len, ?_⟩
  intro A outer s H args us vs Q E hg hr e0 hb r hsp
  have hl := len _ _ _ _ hsp
  have KX : K.In s.heap := e0.mod.kin.keeps fun b o q => (e0.bs b o q).1
  have lim : s.heap.NoLimit := e0.mod.nolimit.keeps fun b o q => (e0.bs b o q).1
  refine codeAny_call_function hr.depth (KX _ _ lk) rfl S.co S.gen rfl (PySem.W.codeRec_of KX hcd) (hb _ _ _ _ ?_)
  refine wpAny_newFunctionEnv_cells S.kind (fun y hy => ?_) fun env he s1 x => ?_
  · rcases S.par y.1 (List.of_mem_zip hy).1 with q | q
    · exact Or.inl q
    · exact Or.inr ⟨q, PySem.W.cellsFrom_some _ _ _ (Or.inl q)⟩
  · subst he
    refine ⟨lim.keeps x.toInCall.keep, codeAny_func ?_⟩
    obtain ⟨t, ht, hq⟩ := hbody cdv A outer s H vs Q E hg (hr.deeper _) hsp
    refine wpAny_mono (ht.run [] s1 (L2.start N vs) H _ (inv_start S hr.hd e0 hl r x) hq) ?_ (fun e s' hs => hs)
    intro fl s' hs
    cases fl with
    | ret u =>
      obtain ⟨v, σ', H', J, rv, q⟩ := hs
      exact ⟨v, H', J.os, J.bare, J.base, J.hok, rv, q⟩
    | next =>
      obtain ⟨σ', H', J, q⟩ := hs
      exact ⟨V.non, H', J.os, J.bare, J.base, J.hok, rfl, q⟩
    | brk =>
      obtain ⟨_, _, _, q⟩ := hs
      exact q.elim
    | cont =>
      obtain ⟨_, _, _, q⟩ := hs
      exact q.elim
end

/-- how the heap lies behind a call -/
def PC (K : PySem.W.Frag) (mg : Str → Option Value) (pa : Option Addr) (F H : Hp) (z : Zs) : Prop := PzOk pa F H z ∧ CsOk K mg pa F H z.cs
def Aft (K : PySem.W.Frag) (mg : Str → Option Value) (pa : Option Addr) (F H F' H' : Hp) (z' : Zs) : Prop := Same F F' ∧ Sub F' H' ∧ Keep pa F F' H H' ∧ (∀ b, F' b ≠ none → F b = none → H b = none) ∧ PC K mg pa F' H' z'
/-- what a def on data promises: its answer frozen; a new list of the caller's own -/
def spF (K : PySem.W.Frag) (mg : Str → Option Value) (n : Nat) (m : List D → E0 D) : Sp := fun vs H Q E => vs.length = n ∧ ∃ (pa : Option Addr) (F : Hp) (z : Zs) (ds : List D) (Qd : D → Zs → Prop) (Xd : Er → Zs → Prop),
  Sub F H ∧ PC K mg pa F H z ∧ RpL K mg pa F vs ds ∧ m ds Qd Xd z ∧ (∀ d z' v F' H', Qd d z' → Aft K mg pa F H F' H' z' → Rp K mg pa F' v d → Q v H') ∧
  (∀ e z' cls dd F' H', Xd e z' → Aft K mg pa F H F' H' z' → ExR ⟨K, mg, pa, F, H, []⟩ F' H' e cls dd → E cls dd H')
def spO (K : PySem.W.Frag) (mg : Str → Option Value) (n : Nat) (m : List D → E0 (List D)) : Sp := fun vs H Q E => vs.length = n ∧ ∃ (pa : Option Addr) (F : Hp) (z : Zs) (ds : List D) (Qd : List D → Zs → Prop) (Xd : Er → Zs → Prop),
  Sub F H ∧ PC K mg pa F H z ∧ RpL K mg pa F vs ds ∧ m ds Qd Xd z ∧ (∀ ds z' a xs F' H', Qd ds z' → Aft K mg pa F H F' H' z' → H' a = some (.lst xs) → F' a = none → H a = none → some a ≠ pa → RpL K mg pa F' xs ds → Q (.ref a) H') ∧
  (∀ e z' cls dd F' H', Xd e z' → Aft K mg pa F H F' H' z' → ExR ⟨K, mg, pa, F, H, []⟩ F' H' e cls dd → E cls dd H')
/-- the slots at a def's entry -/
def rho0 (n : Nat) (ds : List D) : Rho := ds.map Sl.fr ++ List.replicate (n - ds.length) Sl.no
def outF (Q : D → Zs → Prop) : Fl → Rho → Zs → Prop
  | .nx, _, z => Q .non z
  | .ret d, _, z => Q d z
  | .retO ds, _, z => Q (.lst ds) z
  | _, _, _ => False
def outO (Q : List D → Zs → Prop) : Fl → Rho → Zs → Prop
  | .retO ds, _, z => Q ds z
  | _, _, _ => False
/-- a def's computation by its body's -/
def dF (n : Nat) (s : E Fl) : List D → E0 D := fun ds Q X z => s (rho0 n ds) (outF Q) (fun e _ z => X e z) z
def dO (n : Nat) (s : E Fl) : List D → E0 (List D) := fun ds Q X z => s (rho0 n ds) (outO Q) (fun e _ z => X e z) z

section
variable {P : Program} {w : World} {K : PySem.W.Frag} {mg : Str → Option Value} {base : Heap}
/-- the context of a def's body -/
abbrev cxG (P : Program) (w : World) (K : PySem.W.Frag) (mg : Str → Option Value) (base : Heap) (N : List Str) (qual : Str) (scope : Scope) (f : Addr) (cdv : Value) (A : Around) (outer : List PySem.Env) (s : Shared) (H : Hp) (E : XK) : Cx :=
  cxOf (L2.CX P w) P w K mg base N qual scope f cdv A outer s H E
abbrev wE (E : XK) : WX := fun cls d _ H => E cls d H
theorem start_ok {N : List Str} {vs : List V} {ds : List D} {pa : Option Addr} {F H : Hp} {z : Zs} (sub : Sub F H) (pz : PC K mg pa F H z) (r : RpL K mg pa F vs ds) (hn : vs.length ≤ N.length) :
    StOk ⟨K, mg, pa, F, H, []⟩ (L2.start N vs) (rho0 N.length ds) F H z := by
  have hl := RpL.length r
  refine ⟨sub, Same.refl F, Keep.refl, fun b h1 h2 => absurd h2 h1, ?_, fun i v s e1 e2 => ?_, fun i j x y a e1 _ _ _ => ?_, pz.1, (fun b hb => by cases hb), pz.2⟩
  · unfold L2.start rho0
    simp only [List.length_append, List.length_map, List.length_replicate]
    omega
  · unfold L2.start at e1
    unfold rho0 at e2
    by_cases hi : i < vs.length
    · rw [List.getElem?_append_left (by simpa using hi), List.getElem?_map] at e1
      rw [List.getElem?_append_left (by simpa using (show i < ds.length by omega)), List.getElem?_map] at e2
      cases q : vs[i]? with
      | none => rw [q] at e1; cases e1
      | some u =>
        rw [q] at e1
        cases e1
        obtain ⟨d, qd, rd⟩ := RpL.getV r q
        rw [qd] at e2
        cases e2
        exact rd
    · rw [List.getElem?_append_right (by simp; omega), List.getElem?_replicate] at e2
      split at e2
      · cases e2
        cases v <;> trivial
      · cases e2
  · unfold rho0 at e1
    by_cases hi : i < ds.length
    · rw [List.getElem?_append_left (by simpa using hi), List.getElem?_map] at e1
      cases q : ds[i]? with
      | none => rw [q] at e1; cases e1
      | some u => rw [q] at e1; cases e1
    · rw [List.getElem?_append_right (by simp; omega), List.getElem?_replicate] at e1
      split at e1
      · cases e1
      · cases e1
theorem StOk.aft {pa : Option Addr} {F H F' H' : Hp} {σ : L2.St} {ρ : Rho} {z : Zs} (S : StOk ⟨K, mg, pa, F, H, []⟩ σ ρ F' H' z) : Aft K mg pa F H F' H' z := ⟨S.f0, S.sub, S.h0, S.nw, S.pz, S.cs⟩
/-- behind a def its own list is frozen: whatever the slots say of it is forgotten -/
theorem StOk.frzAny {pa : Option Addr} {F H F' H' : Hp} {σ : L2.St} {ρ : Rho} {z : Zs} (S : StOk ⟨K, mg, pa, F, H, []⟩ σ ρ F' H' z) {a : Addr} {xs : List V} (e2 : H' a = some (.lst xs)) (e3 : F' a = none) (e4 : H a = none) (e5 : some a ≠ pa) :
    Aft K mg pa F H (upd F' a (.lst xs)) H' z := by
  refine ⟨S.f0.trans (Same.new e3), fun b u e n => ?_, S.h0.trans (Keep.frz ngL), fun b h1 h2 => ?_, fun q e => ?_, S.cs.grow (Same.new e3) (fun _ _ e => gh_upd ngL e) fun _ _ _ _ e => e⟩
  · by_cases q : b = a
    · subst q; rw [upd_same] at e; cases e; exact e2
    · rw [upd_ne q] at e; exact S.sub _ _ e n
  · by_cases q : b = a
    · rw [q]; exact e4
    · rw [upd_ne q] at h1; exact S.nw b h1 h2
  · obtain ⟨h1, r⟩ := S.pz q e
    have ne : q ≠ a := fun z => e5 (by rw [← z]; exact e.symm)
    exact ⟨by rw [upd_ne ne]; exact h1, r⟩
/-- the body's facts at the entry -/
theorem kx_of {k : Nat} {N ps : List Str} {qual : Str} {scope : Scope} {f : Addr} {cdv : Value} {A : Around} {outer : List PySem.Env} {s : Shared} {H : Hp} {E : XK} {pa : Option Addr} {F : Hp} (S : FnScope N ps scope) (hg : A.guards = some [])
    (hr : Room k (A.deeper (envOfC qual scope s.heap.objs.size f cdv))) : Kx (cxG P w K mg base N qual scope f cdv A outer s H E) ⟨K, mg, pa, F, H, []⟩ (wE E) k :=
  ⟨rfl, rfl, rfl, hg, hr, takes_of rfl rfl rfl rfl, S.nd, passes_of rfl⟩
theorem fnF_of {k : Nat} {f : Addr} {x qual : Str} {params : Arguments} {body : List Stmt} {scope : Scope} {dvs : List V} {kws : List (Str × V)} {fd : FuncData} {N ps : List Str} {st : E Fl}
    (F : FunD K x qual params body scope dvs kws f fd) (S : FnScope N ps scope)
    (hbody : ∀ (cdv : Value) (A : Around) (outer : List PySem.Env) (s : Shared) (H : Hp) (E : XK) (pa : Option Addr) (F0 : Hp), Kx (cxG P w K mg base N qual scope f cdv A outer s H E) ⟨K, mg, pa, F0, H, []⟩ (wE E) k →
      XSs (cxG P w K mg base N qual scope f cdv A outer s H E) ⟨K, mg, pa, F0, H, []⟩ (wE E) body st) : FnG P w K mg base (k + 1) f fd ps (spF K mg ps.length (dF N.length st)) := by
  refine fnG_of F S (fun vs H Q E h => h.1) fun cdv A outer s H vs Q E hg hr h => ?_
  obtain ⟨hl, pa, F0, z, ds, Qd, Xd, sub, pz, r, hm, hq, hx⟩ := h
  obtain ⟨t, h1, h2⟩ := (hbody cdv A outer s H E pa F0 (kx_of S hg hr)).ex
  have hn : vs.length ≤ N.length := by have := congrArg List.length S.pre; rw [List.length_take] at this; omega
  refine ⟨t, h1, h2 (L2.start N vs) (rho0 N.length ds) F0 H z (outF Qd) (fun e _ z => Xd e z) _ (start_ok sub pz r hn) hm (fun fl ρ' z' F' H' q ff => ?_) fun e ρ' z' cls dd σ' F' H' q S' ff r' => hx e z' cls dd F' H' q S'.aft r'⟩
  cases fl with
  | nx => exact fun σ S' => hq _ _ _ _ _ q S'.aft .non
  | ret d => exact fun σ v S' rv => hq _ _ _ _ _ q S'.aft rv
  | retO d =>
    intro σ v S' ⟨a, xs, e1, e2, e3, e4, e5, e6, _⟩
    subst e1
    exact hq _ _ _ _ _ q (S'.frzAny e2 e3 e4 e5) (.lst e5 upd_same (RpL.mono (Same.new e3) e6))
  | bk => exact False.elim q
  | ct => exact False.elim q
theorem fnO_of {k : Nat} {f : Addr} {x qual : Str} {params : Arguments} {body : List Stmt} {scope : Scope} {dvs : List V} {kws : List (Str × V)} {fd : FuncData} {N ps : List Str} {st : E Fl}
    (F : FunD K x qual params body scope dvs kws f fd) (S : FnScope N ps scope)
    (hbody : ∀ (cdv : Value) (A : Around) (outer : List PySem.Env) (s : Shared) (H : Hp) (E : XK) (pa : Option Addr) (F0 : Hp), Kx (cxG P w K mg base N qual scope f cdv A outer s H E) ⟨K, mg, pa, F0, H, []⟩ (wE E) k →
      XSs (cxG P w K mg base N qual scope f cdv A outer s H E) ⟨K, mg, pa, F0, H, []⟩ (wE E) body st) : FnG P w K mg base (k + 1) f fd ps (spO K mg ps.length (dO N.length st)) := by
  refine fnG_of F S (fun vs H Q E h => h.1) fun cdv A outer s H vs Q E hg hr h => ?_
  obtain ⟨hl, pa, F0, z, ds, Qd, Xd, sub, pz, r, hm, hq, hx⟩ := h
  obtain ⟨t, h1, h2⟩ := (hbody cdv A outer s H E pa F0 (kx_of S hg hr)).ex
  have hn : vs.length ≤ N.length := by have := congrArg List.length S.pre; rw [List.length_take] at this; omega
  refine ⟨t, h1, h2 (L2.start N vs) (rho0 N.length ds) F0 H z (outO Qd) (fun e _ z => Xd e z) _ (start_ok sub pz r hn) hm (fun fl ρ' z' F' H' q ff => ?_) fun e ρ' z' cls dd σ' F' H' q S' ff r' => hx e z' cls dd F' H' q S'.aft r'⟩
  cases fl with
  | retO d =>
    intro σ v S' ⟨a, xs, e1, e2, e3, e4, e5, e6, _⟩
    subst e1
    exact hq _ _ _ _ _ _ q S'.aft e2 e3 e4 e5 e6
  | nx => exact False.elim q
  | ret d => exact False.elim q
  | bk => exact False.elim q
  | ct => exact False.elim q
end
end DL

namespace DL
open PySem PySem.Spec PyProof.Rows L2

/-! ## calls of own defs -/
/-- how a call's values become the parameters' -/
structure BG (K : PySem.W.Frag) (fd : FuncData) (ps ks : List Str) (n : Nat) (gV : List V → List V → List V) (gD : List D → List D → List D) : Prop where
  to : ∀ (s : Shared) (us ws : List Value), K.In s.heap → us.length = n → ws.length = ks.length → ∃ us', BindsTo s fd ⟨us, ks.zip ws⟩ (ps.zip us') ∧ ∀ vs zs, Vals vs us → Vals zs ws → Vals (gV vs zs) us'
  rel : ∀ (mg : Str → Option Value) (pa : Option Addr) (F : Hp) vs ds zs es, RpL K mg pa F vs ds → RpL K mg pa F zs es → RpL K mg pa F (gV vs zs) (gD ds es)
def gL {α : Type} : List α → List α → List α := fun a _ => a
theorem bg_pos {K : PySem.W.Frag} {fd : FuncData} {ps : List Str} (h : Binds K fd ps []) : BG K fd ps [] ps.length gL gL :=
  ⟨fun s us ws X l1 l2 => ⟨us, (by
    have b := h s us X (by rw [List.append_nil]; exact l1)
    rw [List.append_nil] at b
    cases ws with
    | nil => exact b
    | cons a r => cases l2), fun vs zs r1 r2 => r1⟩, fun mg pa F vs ds zs es r1 r2 => r1⟩
section
variable {X : Cx} {C : CC} {W : WX} {k n j : Nat} {f : Addr} {fd : FuncData} {ps ks : List Str} {sp : Sp} {x : Str} {p pos kpos : Pos} {e : Expr} {es : List Expr} {kws : List Keyword} {t tk : TA} {gV : List V → List V → List V} {gD : List D → List D → List D} {nm : Option Str}
theorem run_g {pins : List (Addr × Obj)} {σ : L2.St} {H : Hp} {s : Shared} {Q : VK} {us ws : List Value} {vs zs : List V} (F : FnG X.prog X.w X.K X.mg X.base j f fd ps sp) (kx : Kx X C W k) (hj : j ≤ k) (hb : BG X.K fd ps ks n gV gD)
    (I : Inv X pins σ H s) (r : Vals vs us) (rz : Vals zs ws) (l1 : vs.length = n) (l2 : zs.length = ks.length) (h : sp (gV vs zs) H Q (WE W σ)) : wpAny (model X.prog X.w) X.A (call (.ref f) us (ks.zip ws)) (EP X pins σ Q) X.xe s := by
  obtain ⟨us', b, rr⟩ := hb.to s us ws I.kIn (r.length.symm.trans l1) (rz.length.symm.trans l2)
  refine wpAny_call (codeAny_mono (F.run X.A X.stack s H ⟨us, ks.zip ws⟩ us' (gV vs zs) Q (WE W σ) kx.gu (kx.room.mono hj) I.env0 b (rr _ _ r rz) h) fun r s' hq => ?_)
  cases r with
  | error e => exact passAt kx.tk σ pins H s e s' I hq
  | ok fl =>
    cases fl with
    | ret u => exact I.after hq
    | next => exact False.elim hq
    | brk => exact False.elim hq
    | cont => exact False.elim hq
def tCG (n m : Nat) (sp : Sp) (gV : List V → List V → List V) (W : WX) (t tk : TA) : TE := fun σ H Q => t σ H fun vs H1 => tk σ H1 fun zs H2 => vs.length = n ∧ zs.length = m ∧ sp (gV vs zs) H2 Q (WE W σ)
/-- the def that a global name holds -/
structure GF (X : Cx) (x : Str) (j : Nat) (f : Addr) (fd : FuncData) (ps : List Str) (sp : Sp) : Prop where
  fn : FnG X.prog X.w X.K X.mg X.base j f fd ps sp
  mg : X.mg x = some (.ref f)
  kp : PySem.W.keepIn X.K (.ref f) = true
theorem pe_cg (G : GF X x j f fd ps sp) (kx : Kx X C W k) (hj : j ≤ k) (hb : BG X.K fd ps [] n gV gD) (hg : Gl X x)
    (ha : PA X (e :: es) t) (hdb : (x == ("__debug__" : Str)) = false := by decide) (he : starEach (e :: es) X.env = (false, eval e X.env) :: starEach es X.env := by rfl) (hpl : (backTo pos (starEach es X.env)).any (·.1) = false := by rfl) :
    PE X (.Call (.Name x p) (e :: es) [] pos) (tCG n 0 sp gV W t tNil) := by
  refine ⟨fun pins s σ H Q I h => ?_⟩
  refine wpAny_Call_Name_kw (ld_glob I hg G.mg ?_ hdb)
  refine PySem.W.callWith_K (h₀ := X.base) I.ok.mod.kin G.kp (thn (ha.run pos pins s σ H _ I h) fun us s1 ⟨vs, H1, I1, r, l1, l2, q⟩ => ⟨I1.kIn, ?_⟩) he hpl
  exact run_g (us := us) (ws := []) G.fn kx hj hb I1 r .nil l1 rfl q
structure XKw (X : Cx) (C : CC) (W : WX) (ks : List Keyword) (m : E (List D)) : Prop where
  ex : ∃ t, PK X ks t ∧ Den C W t m (kL C)
def fCall {α : Type} (n n1 n2 : Nat) (m : List D → E0 α) (gD : List D → List D → List D) (ds es : List D) : E α := fun ρ Q X z => ds.length = n1 ∧ es.length = n2 ∧ (gD ds es).length = n ∧ e0 (m (gD ds es)) ρ Q X z
def eCall {α : Type} (n n1 n2 : Nat) (m : List D → E0 α) (gD : List D → List D → List D) (ma mk : E (List D)) : E α := eb ma fun ds => eb mk fun es => fCall n n1 n2 m gD ds es
theorem StOk.call {σ : L2.St} {ρ : Rho} {F H F' H' : Hp} {z z' : Zs} (S : StOk C σ ρ F H z) (a : Aft C.K C.mg C.pa F H F' H' z') : StOk C σ ρ F' H' z' := S.grow a.1 a.2.1 a.2.2.1 a.2.2.2.1 a.2.2.2.2.1 a.2.2.2.2.2
theorem den_callF {N n1 n2 : Nat} {ta tk : TA} {ma mk : E (List D)} {m : List D → E0 D} {gV : List V → List V → List V} {gD : List D → List D → List D} (hK : X.K = C.K) (hmg : X.mg = C.mg)
    (hr : ∀ (mg : Str → Option Value) (pa : Option Addr) (F : Hp) vs ds zs es, RpL X.K mg pa F vs ds → RpL X.K mg pa F zs es → RpL X.K mg pa F (gV vs zs) (gD ds es))
    (ha : Den C W ta ma (kL C)) (hk : Den C W tk mk (kL C)) : Den C W (tCG n1 n2 (spF X.K X.mg N m) gV W ta tk) (eCall N n1 n2 m gD ma mk) (kR C) := by
  rw [hK, hmg]
  rw [hK] at hr
  refine Den.bind (u := fun vs σ H Q => tk σ H fun zs H2 => vs.length = n1 ∧ zs.length = n2 ∧ spF C.K C.mg N m (gV vs zs) H2 Q (WE W σ)) back_R ha ?_
  intro H0 σ ρ F H z ds vs Qd Xd Q S ra hm hq hx
  refine hk σ ρ F H z _ Xd _ S hm (fun es ρ2 z2 zs F2 H2 q2 S2 ff2 k2 o2 rb => ?_) hx
  obtain ⟨q1, q2, q3, q4⟩ := q2
  have ra2 : C.RL F2 vs ds := RpL.mono ff2 ra
  have rr : C.RL F2 (gV vs zs) (gD ds es) := hr C.mg C.pa F2 vs ds zs es ra2 rb
  refine ⟨(RpL.length ra).trans q1, (RpL.length rb).trans q2, (RpL.length rr).trans q3, C.pa, F2, z2, gD ds es, _, _, S2.sub, ⟨S2.pz, S2.cs⟩, rr, q4, fun d z' v F' H' q' a r => ?_, fun e z' cls dd F' H' q' a r => ?_⟩
  · refine hq d ρ2 z' v F' H' q' (S2.call a) (ff2.trans a.1) (k2.trans a.2.2.1) o2 r
  · refine hx e ρ2 z' cls dd F' H' q' (S2.call a) (ff2.trans a.1) r
theorem den_callO {N n1 n2 : Nat} {ta tk : TA} {ma mk : E (List D)} {m : List D → E0 (List D)} {gV : List V → List V → List V} {gD : List D → List D → List D} (hK : X.K = C.K) (hmg : X.mg = C.mg)
    (hr : ∀ (mg : Str → Option Value) (pa : Option Addr) (F : Hp) vs ds zs es, RpL X.K mg pa F vs ds → RpL X.K mg pa F zs es → RpL X.K mg pa F (gV vs zs) (gD ds es))
    (ha : Den C W ta ma (kL C)) (hk : Den C W tk mk (kL C)) : Den C W (tCG n1 n2 (spO X.K X.mg N m) gV W ta tk) (eCall N n1 n2 m gD ma mk) (RO C) := by
  rw [hK, hmg]
  rw [hK] at hr
  refine Den.bind (u := fun vs σ H Q => tk σ H fun zs H2 => vs.length = n1 ∧ zs.length = n2 ∧ spO C.K C.mg N m (gV vs zs) H2 Q (WE W σ)) back_O ha ?_
  intro H0 σ ρ F H z ds vs Qd Xd Q S ra hm hq hx
  refine hk σ ρ F H z _ Xd _ S hm (fun es ρ2 z2 zs F2 H2 q2 S2 ff2 k2 o2 rb => ?_) hx
  obtain ⟨q1, q2, q3, q4⟩ := q2
  have ra2 : C.RL F2 vs ds := RpL.mono ff2 ra
  have rr : C.RL F2 (gV vs zs) (gD ds es) := hr C.mg C.pa F2 vs ds zs es ra2 rb
  refine ⟨(RpL.length ra).trans q1, (RpL.length rb).trans q2, (RpL.length rr).trans q3, C.pa, F2, z2, gD ds es, _, _, S2.sub, ⟨S2.pz, S2.cs⟩, rr, q4, fun d z' a xs F' H' q' af e1 e2 e3 e4 r => ?_, fun e z' cls dd F' H' q' a r => ?_⟩
  · refine hq d ρ2 z' _ F' H' q' (S2.call af) (ff2.trans af.1) (k2.trans af.2.2.1) o2 ?_
    exact back_O (C := C) H H2 F' H' (.ref a) d k2.dm ⟨a, xs, rfl, e1, e2, e3, e4, r⟩
  · refine hx e ρ2 z' cls dd F' H' q' (S2.call a) (ff2.trans a.1) r
section
variable {N : Nat} {ma mk : E (List D)} {m : List D → E0 D} {mo : List D → E0 (List D)}
theorem xe_call (G : GF X x j f fd ps (spF X.K X.mg N m)) (kx : Kx X C W k) (hj : j ≤ k) (hb : BG X.K fd ps [] n gV gD) (hg : Gl X x)
    (ha : XA X C W (e :: es) ma) (hdb : (x == ("__debug__" : Str)) = false := by decide) (he : starEach (e :: es) X.env = (false, eval e X.env) :: starEach es X.env := by rfl) (hpl : (backTo pos (starEach es X.env)).any (·.1) = false := by rfl) :
    XE X C W (.Call (.Name x p) (e :: es) [] pos) (eCall N n 0 m gD ma (ep [])) := by
  obtain ⟨t, h1, h2⟩ := ha.ex
  exact ⟨_, pe_cg G kx hj hb hg h1 hdb he hpl, den_callF kx.hK kx.hmg hb.rel h2 (fun σ ρ F H z Qd Xd Q S hm hq hx => S.same (R := kL C) hm .nil hq)⟩
theorem xo_call (G : GF X x j f fd ps (spO X.K X.mg N mo)) (kx : Kx X C W k) (hj : j ≤ k) (hb : BG X.K fd ps [] n gV gD) (hg : Gl X x)
    (ha : XA X C W (e :: es) ma) (hdb : (x == ("__debug__" : Str)) = false := by decide) (he : starEach (e :: es) X.env = (false, eval e X.env) :: starEach es X.env := by rfl) (hpl : (backTo pos (starEach es X.env)).any (·.1) = false := by rfl) :
    XO X C W (.Call (.Name x p) (e :: es) [] pos) (eCall N n 0 mo gD ma (ep [])) := by
  obtain ⟨t, h1, h2⟩ := ha.ex
  exact ⟨_, pe_cg G kx hj hb hg h1 hdb he hpl, den_callO kx.hK kx.hmg hb.rel h2 (fun σ ρ F H z Qd Xd Q S hm hq hx => S.same (R := kL C) hm .nil hq)⟩
end
end
end DL

namespace DL
open PySem PySem.Spec PyProof.Rows L2

section
variable {X : Cx} {C : CC} {W : WX} {e a b : Expr} {m ma mb : E D} {pos p2 : Pos} {k : Nat} {lo hi : Option Expr}
/-! ## subscripts -/
theorem RpL.atI {K : PySem.W.Frag} {mg : Str → Option Value} {pa : Option Addr} {F : Hp} {vs : List V} {ds : List D} {i : Int} {d : D} (h : RpL K mg pa F vs ds) (e : atI ds i = some d) : ∃ v, L2.atI vs i = some v ∧ Rp K mg pa F v d := by
  unfold L2.atI at e ⊢
  rw [RpL.length h]
  cases q : ixN ds.length i with
  | none => rw [q] at e; cases e
  | some j =>
    rw [q] at e
    exact RpL.get h e
theorem o_ix : Op2 C W (rIx C.K) (fun x y => eP (dIx x y)) (kR C) := op2_flat fun F H x y dx dy Q Qd s rx ry hp hq => by
  cases dy with
  | int i =>
    obtain rfl := RT.int ry
    cases dx with
    | lst ds =>
      obtain ⟨d, e, q⟩ := hp
      obtain ⟨a, xs, rfl, ha, r, _⟩ := RT.lst s rx
      obtain ⟨v, e1, r1⟩ := RpL.atI r e
      exact .inl ⟨a, xs, i, v, rfl, rfl, .inl (.inl ha), e1, hq _ _ q r1⟩
    | tup ds =>
      obtain ⟨d, e, q⟩ := hp
      obtain ⟨a, xs, rfl, ha, r⟩ := RT.tup s rx
      obtain ⟨v, e1, r1⟩ := RpL.atI r e
      exact .inr (.inl ⟨a, xs, i, v, rfl, rfl, ha, e1, hq _ _ q r1⟩)
    | str z =>
      obtain ⟨h1, c, e, q⟩ := hp
      obtain rfl := RT.str rx
      exact .inr (.inr ⟨z, i, c, rfl, rfl, line_le h1, e, hq _ _ q (.str _)⟩)
    | scr ns =>
      obtain ⟨j, e, q⟩ := hp
      obtain ⟨a, rfl, ha⟩ := RT.scr s rx
      have e1 : L2.atI (ns.map V.int) i = some (V.int j) := by
        unfold L2.atI at e ⊢
        rw [List.length_map]
        cases q : ixN ns.length i with
        | none => rw [q] at e; cases e
        | some k =>
          rw [q] at e
          show (ns.map V.int)[k]? = _
          rw [List.getElem?_map, show ns[k]? = some j from e]
          rfl
      exact .inl ⟨a, _, i, _, rfl, rfl, ha, e1, hq _ _ q (.int _)⟩
    | _ => exact hp.elim
  | _ => cases dx <;> exact hp.elim
theorem xe_ix (hK : X.K = C.K) (ha : XP X C W a ma) (hb : XP X C W b mb) (hs : PlainIx b) : XE X C W (.Subscript a b pos) (eb ma fun x => eb mb fun y => eP (dIx x y)) := by
  obtain ⟨ta, a1, a2⟩ := ha.ex
  obtain ⟨tb, b1, b2⟩ := hb.ex
  refine ⟨_, pe_ix ix_seq a1 b1 hs, ?_⟩
  rw [hK]
  exact den_op back_R a2 b2 o_ix

/-! ## slices -/
structure XPart (X : Cx) (C : CC) (W : WX) (e : Option Expr) (m : E (Option Int)) : Prop where
  ex : ∃ t, PO X e t ∧ Den C W t m (fun _ _ _ a b => a = b)
def fPart : D → E (Option Int)
  | .int i => ep (some i)
  | _ => eStuck
theorem xpt_none : XPart X C W none (ep none) := ⟨tNoPart, po_none, fun σ ρ F H z Qd Xd Q S hm hq hx => S.same (R := fun _ _ _ a b => a = b) hm rfl hq⟩
theorem xpt_some (h : XP X C W e m) : XPart X C W (some e) (eb m fPart) := by
  obtain ⟨t, h1, h2⟩ := h.ex
  refine ⟨_, po_some h1, Den.bind (u := fun x (_ : L2.St) H Q => ∃ i, x = .int i ∧ Q (some i) H) (fun _ _ _ _ _ _ _ h => h) h2 fun H0 σ ρ F H z a x Qd Xd Q S ra hm hq hx => ?_⟩
  cases a with
  | int i =>
    obtain rfl := RT.int (RK.now ra)
    exact ⟨i, rfl, S.same (R := fun _ _ _ a b => a = b) hm rfl hq⟩
  | _ => exact False.elim hm
def cutD (xs : List D) (lo hi : Option Int) : List D := (xs.drop (HT.sIx xs.length 0 lo)).take (HT.sIx xs.length xs.length hi - HT.sIx xs.length 0 lo)
theorem RpL.cut {K : PySem.W.Frag} {mg : Str → Option Value} {pa : Option Addr} {F : Hp} {vs : List V} {ds : List D} (h : RpL K mg pa F vs ds) (lo hi : Option Int) : RpL K mg pa F (cutV vs lo hi) (cutD ds lo hi) := by
  unfold cutV cutD
  rw [RpL.length h]
  exact RpL.take _ (RpL.drop _ h)
/-- a slice of a list: a new list -/
def fSlO (d : D) (lo hi : Option Int) : E (List D) := match d with
  | .lst ds => ep (cutD ds lo hi)
  | _ => eStuck
def fSlE (d : D) (lo hi : Option Int) : E D := match d with
  | .tup ds => ep (.tup (cutD ds lo hi))
  | .str s => fun ρ Q _ z => s.length ≤ 16777216 ∧ Q (.str (Txt.slice s lo hi)) ρ z
  | _ => eStuck
theorem den_sl {α : Type} {te : TE} {tl th : TO} {ml mh : E (Option Int)} {r : V → Option Int → Option Int → Hp → VK → Prop} {f : D → Option Int → Option Int → E α} {R : Hp → Hp → Hp → V → α → Prop} (hB : Back C R)
    (he : Den C W te m (kT C)) (hl : Den C W tl ml (fun _ _ _ a b => a = b)) (hh : Den C W th mh (fun _ _ _ a b => a = b))
    (ho : ∀ lo hi, Op1 C W (fun x H Q => r x lo hi H Q) (fun d => f d lo hi) R) : Den C W (tSl r te tl th) (eb m fun d => eb ml fun lo => eb mh fun hi => f d lo hi) R := by
  refine Den.bind (u := fun x σ H Q => tl σ H fun l H2 => th σ H2 fun u H3 => r x l u H3 Q) hB he fun H0 σ ρ F H z d x Qd Xd Q S rx hm hq hx => ?_
  refine hl σ ρ F H z _ Xd _ S hm (fun l ρ2 z2 l' F2 H2 q2 S2 ff2 k2 o2 el => ?_) hx
  subst el
  refine hh σ ρ2 F2 H2 z2 _ Xd _ S2 q2 (fun u ρ3 z3 u' F3 H3 q3 S3 ff3 k3 o3 eu => ?_) (fun e ρ' z' cls dd F' H' q' S' ff' r' => hx e ρ' z' cls dd F' H' q' S' (ff2.trans ff') r')
  subst eu
  exact ho _ _ σ ρ3 F3 H3 z3 x d Qd Xd Q S3 ((rx.keep ff2 k2).keep ff3 k3).now q3
    (fun c ρ' z' d' F' H' q' S' ff' k' o' r' => hq c ρ' z' d' F' H' q' S' (ff2.trans (ff3.trans ff')) (k2.trans (k3.trans k')) ((o'.trans o3).trans o2) (hB _ _ _ _ _ _ (k2.trans k3).dm r'))
    (fun e ρ' z' cls dd F' H' q' S' ff' r' => hx e ρ' z' cls dd F' H' q' S' (ff2.trans (ff3.trans ff')) r')
theorem o_slO (lo hi : Option Int) : Op1 C W (fun x H Q => rSlL C.K x lo hi H Q) (fun d => fSlO d lo hi) (RO C) := fun σ ρ F H z x dx Qd Xd Q S rx hm hq hx => by
  cases dx with
  | lst ds =>
    obtain ⟨a, xs, rfl, ha, r, _⟩ := RT.lst S.sub rx
    exact ⟨a, xs, rfl, .inl (.inl ha), fun p hp => S.newL hp (RpL.cut r lo hi) hm hq⟩
  | _ => exact False.elim hm
theorem cut_all {ds : List D} {lo hi : Option Int} (h : HT.sIx ds.length 0 lo = 0 ∧ HT.sIx ds.length ds.length hi = ds.length) : cutD ds lo hi = ds := by
  unfold cutD
  rw [h.1, h.2]
  simp
theorem o_slE (lo hi : Option Int) : Op1 C W (fun x H Q => rSlA C.K x lo hi H Q ∨ C8.rSlX x lo hi H Q) (fun d => fSlE d lo hi) (kR C) := fun σ ρ F H z x dx Qd Xd Q S rx hm hq hx => by
  cases dx with
  | tup ds =>
    obtain ⟨a, xs, rfl, ha, r⟩ := RT.tup S.sub rx
    have hl := RpL.length r
    refine .inl ⟨a, xs, rfl, ha, fun hw => ?_, fun _ p hp => S.newT hp (RpL.cut r lo hi) hm hq⟩
    rw [hl] at hw
    have e := cut_all hw
    have hm' : Qd (.tup (cutD ds lo hi)) ρ z := hm
    rw [e] at hm'
    refine S.same (R := kR C) hm' ?_ hq
    exact rx.fro fun _ z => z
  | str s =>
    obtain rfl := RT.str rx
    exact .inr ⟨s, rfl, line_le hm.1, S.same (R := kR C) hm.2 (.str _) hq⟩
  | _ => exact False.elim hm
theorem xo_slice {ml mh : E (Option Int)} (hK : X.K = C.K) (he : XP X C W e m) (hl : XPart X C W lo ml) (hh : XPart X C W hi mh) : XO X C W (.Subscript e (.Slice lo hi none p2) pos) (eb m fun d => eb ml fun lo => eb mh fun hi => fSlO d lo hi) := by
  obtain ⟨t, a1, a2⟩ := he.ex
  obtain ⟨tl, b1, b2⟩ := hl.ex
  obtain ⟨th, c1, c2⟩ := hh.ex
  refine ⟨_, pe_slice sl_list a1 b1 c1, ?_⟩
  rw [hK]
  exact den_sl back_O a2 b2 c2 o_slO
theorem xe_slice {ml mh : E (Option Int)} (hK : X.K = C.K) (he : XP X C W e m) (hl : XPart X C W lo ml) (hh : XPart X C W hi mh) : XE X C W (.Subscript e (.Slice lo hi none p2) pos) (eb m fun d => eb ml fun lo => eb mh fun hi => fSlE d lo hi) := by
  obtain ⟨t, a1, a2⟩ := he.ex
  obtain ⟨tl, b1, b2⟩ := hl.ex
  obtain ⟨th, c1, c2⟩ := hh.ex
  refine ⟨_, pe_slice (sl_tupA.or C8.sl_txt) a1 b1 c1, ?_⟩
  rw [hK]
  exact den_sl back_R a2 b2 c2 o_slE

/-! ## built-in functions -/
section
variable {x : Str} {p : Pos} {id T : String} {r : List V → Hp → VK → Prop} {f : D → E D} {fo : D → E (List D)} {f2 : D → D → E D}
abbrev S1 (X : Cx) (a : Expr) : Prop := starEach [a] X.env = (false, eval a X.env) :: starEach [] X.env
theorem pa1 {ta : TE} (ha : PE X a ta) (h1 : S1 X a) : PA X [a] (tCons ta tNil) := pa_cons ha pa_nil h1
theorem pa2 {ta tb : TE} (ha : PE X a ta) (hb : PE X b tb) (hp : starEach (a :: [b]) X.env = (false, eval a X.env) :: starEach [b] X.env) (h1 : S1 X b) : PA X [a, b] (tCons ta (tCons tb tNil)) := pa_cons ha (pa_cons hb pa_nil h1) hp
theorem xe_b1 (hc : CallR X (.builtin id) r) (ho : Op1 C W (fun x H Q => r [x] H Q) f (kR C)) (ha : XP X C W a ma) (hg : Gl X x) (hm : X.mg x = none) (hv : bootBuiltins x = some (.builtin id)) (hn : x ≠ "__name__" := by decide) (hdb : (x == ("__debug__" : Str)) = false := by decide) (h1 : S1 X a := by rfl) :
    XE X C W (.Call (.Name x p) [a] [] pos) (eb ma f) := by
  obtain ⟨ta, a1, a2⟩ := ha.ex
  exact ⟨_, pe_callB hc hg hm hv (pa1 a1 h1) hn hdb h1, den_un (r := fun x H Q => r [x] H Q) back_R a2 ho⟩
theorem xe_t1 (hc : CallR X (.type T) r) (ho : Op1 C W (fun x H Q => r [x] H Q) f (kR C)) (ha : XP X C W a ma) (hg : Gl X x) (hm : X.mg x = none) (hv : bootBuiltins x = some (.type T)) (hn : x ≠ "__name__" := by decide) (hdb : (x == ("__debug__" : Str)) = false := by decide) (h1 : S1 X a := by rfl) :
    XE X C W (.Call (.Name x p) [a] [] pos) (eb ma f) := by
  obtain ⟨ta, a1, a2⟩ := ha.ex
  exact ⟨_, pe_callTy hc hg hm hv (pa1 a1 h1) hn hdb h1, den_un (r := fun x H Q => r [x] H Q) back_R a2 ho⟩
theorem xo_b1 (hc : CallR X (.builtin id) r) (ho : Op1 C W (fun x H Q => r [x] H Q) fo (RO C)) (ha : XP X C W a ma) (hg : Gl X x) (hm : X.mg x = none) (hv : bootBuiltins x = some (.builtin id)) (hn : x ≠ "__name__" := by decide) (hdb : (x == ("__debug__" : Str)) = false := by decide) (h1 : S1 X a := by rfl) :
    XO X C W (.Call (.Name x p) [a] [] pos) (eb ma fo) := by
  obtain ⟨ta, a1, a2⟩ := ha.ex
  exact ⟨_, pe_callB hc hg hm hv (pa1 a1 h1) hn hdb h1, den_un (r := fun x H Q => r [x] H Q) back_O a2 ho⟩
theorem xo_t1 (hc : CallR X (.type T) r) (ho : Op1 C W (fun x H Q => r [x] H Q) fo (RO C)) (ha : XP X C W a ma) (hg : Gl X x) (hm : X.mg x = none) (hv : bootBuiltins x = some (.type T)) (hn : x ≠ "__name__" := by decide) (hdb : (x == ("__debug__" : Str)) = false := by decide) (h1 : S1 X a := by rfl) :
    XO X C W (.Call (.Name x p) [a] [] pos) (eb ma fo) := by
  obtain ⟨ta, a1, a2⟩ := ha.ex
  exact ⟨_, pe_callTy hc hg hm hv (pa1 a1 h1) hn hdb h1, den_un (r := fun x H Q => r [x] H Q) back_O a2 ho⟩
theorem xe_b2 (hc : CallR X (.builtin id) r) (ho : Op2 C W (fun x y H Q => r [x, y] H Q) f2 (kR C)) (ha : XP X C W a ma) (hb : XP X C W b mb) (hg : Gl X x) (hm : X.mg x = none) (hv : bootBuiltins x = some (.builtin id)) (hn : x ≠ "__name__" := by decide) (hdb : (x == ("__debug__" : Str)) = false := by decide)
    (hp : starEach (a :: [b]) X.env = (false, eval a X.env) :: starEach [b] X.env := by rfl) (hpl : (backTo pos (starEach [b] X.env)).any (·.1) = false := by rfl) (h1 : S1 X b := by rfl) :
    XE X C W (.Call (.Name x p) [a, b] [] pos) (eb ma fun x => eb mb fun y => f2 x y) := by
  obtain ⟨ta, a1, a2⟩ := ha.ex
  obtain ⟨tb, b1, b2⟩ := hb.ex
  exact ⟨_, pe_callB hc hg hm hv (pa2 a1 b1 hp h1) hn hdb hp hpl, den_op (r := fun x y H Q => r [x, y] H Q) back_R a2 b2 ho⟩
end
/-- the answers -/
def dLen : P1
  | .str s, Q => s.length ≤ 16777216 ∧ Q (.int s.length)
  | .lst ds, Q => Q (.int ds.length)
  | .tup ds, Q => Q (.int ds.length)
  | .scr ns, Q => Q (.int ns.length)
  | _, _ => False
def dAbs : P1
  | .int i, Q => Q (.int (if i < 0 then -i else i))
  | _, _ => False
def dInt : P1
  | .int i, Q => Q (.int i)
  | .bl b, Q => Q (.int (if b then 1 else 0))
  | _, _ => False
def dBool : P1
  | .int i, Q => Q (.bl (i != 0))
  | .bl b, Q => Q (.bl b)
  | _, _ => False
def dMax : P2
  | .int i, .int j, Q => Q (.int (if j > i then j else i))
  | _, _, _ => False
def dMin : P2
  | .int i, .int j, Q => Q (.int (if j < i then j else i))
  | _, _, _ => False
def blsOf : List D → Option (List Bool)
  | [] => some []
  | .bl b :: r => (blsOf r).map (b :: ·)
  | _ :: _ => none
def intsOf : List D → Option (List Int)
  | [] => some []
  | .int b :: r => (intsOf r).map (b :: ·)
  | _ :: _ => none
def dAny : P1
  | .lst ds, Q => ∃ bs, blsOf ds = some bs ∧ Q (.bl (bs.any id))
  | _, _ => False
def dAll : P1
  | .lst ds, Q => ∃ bs, blsOf ds = some bs ∧ Q (.bl (bs.all id))
  | _, _ => False
theorem RpL.bls {K : PySem.W.Frag} {mg : Str → Option Value} {pa : Option Addr} {F : Hp} : ∀ {ds : List D} {vs : List V} {bs : List Bool}, RpL K mg pa F vs ds → blsOf ds = some bs → vs = bs.map V.bl
  | [], _, _, h, e => by cases h; cases e; rfl
  | d :: ds, _, bs, h, e => by
    cases h with
    | cons r rr =>
      cases d with
      | bl b =>
        cases r
        simp only [blsOf, Option.map_eq_some_iff] at e
        obtain ⟨bs', e1, rfl⟩ := e
        rw [RpL.bls rr e1]
        rfl
      | _ => cases e
theorem RpL.ints {K : PySem.W.Frag} {mg : Str → Option Value} {pa : Option Addr} {F : Hp} : ∀ {ds : List D} {vs : List V} {bs : List Int}, RpL K mg pa F vs ds → intsOf ds = some bs → vs = bs.map V.int
  | [], _, _, h, e => by cases h; cases e; rfl
  | d :: ds, _, bs, h, e => by
    cases h with
    | cons r rr =>
      cases d with
      | int b =>
        cases r
        simp only [intsOf, Option.map_eq_some_iff] at e
        obtain ⟨bs', e1, rfl⟩ := e
        rw [RpL.ints rr e1]
        rfl
      | _ => cases e
theorem o_len : Op1 C W (fun x H Q => ∃ y n, [x] = [y] ∧ LenV C.K y H n ∧ Q (.int n) H) (fun d => eP (dLen d)) (kR C) := op1_flat fun F H x dx Q Qd s rx hp hq => by
  cases dx with
  | str z => obtain rfl := RT.str rx; exact ⟨_, _, rfl, ⟨line_le hp.1, rfl⟩, hq _ _ hp.2 (.int _)⟩
  | lst ds =>
    obtain ⟨a, xs, rfl, ha, r, _⟩ := RT.lst s rx
    exact ⟨_, xs.length, rfl, .inl ⟨xs, .inl (.inl ha), rfl⟩, hq _ _ hp (by rw [RpL.length r]; exact .int _)⟩
  | tup ds =>
    obtain ⟨a, xs, rfl, ha, r⟩ := RT.tup s rx
    exact ⟨_, xs.length, rfl, .inr ⟨xs, ha, rfl⟩, hq _ _ hp (by rw [RpL.length r]; exact .int _)⟩
  | scr ns =>
    obtain ⟨a, rfl, ha⟩ := RT.scr s rx
    exact ⟨_, (ns.map V.int).length, rfl, .inl ⟨_, ha, rfl⟩, hq _ _ hp (by rw [List.length_map]; exact .int _)⟩
  | _ => exact hp.elim
theorem o_abs : Op1 C W (fun x H Q => ∃ i, [x] = [V.int i] ∧ Q (.int (if i < 0 then -i else i)) H) (fun d => eP (dAbs d)) (kR C) := op1_flat fun F H x dx Q Qd s rx hp hq => by
  cases dx with
  | int i => obtain rfl := RT.int rx; exact ⟨i, rfl, hq _ _ hp (.int _)⟩
  | _ => exact hp.elim
theorem o_int1 : Op1 C W (fun x H Q => (∃ i, [x] = [V.int i] ∧ Q (.int i) H) ∨ ∃ k, [x] = [V.bl k] ∧ Q (.int (if k then 1 else 0)) H) (fun d => eP (dInt d)) (kR C) := op1_flat fun F H x dx Q Qd s rx hp hq => by
  cases dx with
  | int i => obtain rfl := RT.int rx; exact .inl ⟨i, rfl, hq _ _ hp (.int _)⟩
  | bl i => obtain rfl := RT.bl rx; exact .inr ⟨i, rfl, hq _ _ hp (.int _)⟩
  | _ => exact hp.elim
theorem o_max : Op2 C W (fun x y H Q => ∃ i j, [x, y] = [V.int i, V.int j] ∧ Q (.int (if j > i then j else i)) H) (fun a b => eP (dMax a b)) (kR C) := op2_flat fun F H x y dx dy Q Qd s rx ry hp hq => by
  cases dx with
  | int i => cases dy with
    | int j => obtain rfl := RT.int rx; obtain rfl := RT.int ry; exact ⟨i, j, rfl, hq _ _ hp (.int _)⟩
    | _ => exact hp.elim
  | _ => exact hp.elim
theorem o_min : Op2 C W (fun x y H Q => ∃ i j, [x, y] = [V.int i, V.int j] ∧ Q (.int (if j < i then j else i)) H) (fun a b => eP (dMin a b)) (kR C) := op2_flat fun F H x y dx dy Q Qd s rx ry hp hq => by
  cases dx with
  | int i => cases dy with
    | int j => obtain rfl := RT.int rx; obtain rfl := RT.int ry; exact ⟨i, j, rfl, hq _ _ hp (.int _)⟩
    | _ => exact hp.elim
  | _ => exact hp.elim
theorem o_all : Op1 C W (fun x H Q => rAll C.K [x] H Q) (fun d => eP (dAll d)) (kR C) := op1_flat fun F H x dx Q Qd s rx hp hq => by
  cases dx with
  | lst ds =>
    obtain ⟨bs, e, q⟩ := hp
    obtain ⟨a, xs, rfl, ha, r, _⟩ := RT.lst s rx
    exact ⟨a, bs, rfl, .inl (.inl (by rw [← RpL.bls r e]; exact ha)), hq _ _ q (.bl _)⟩
  | _ => exact hp.elim
/-- list(x), tuple(x) -/
def fList : D → E (List D)
  | .lst ds => ep ds
  | .tup ds => ep ds
  | _ => eStuck
def fTuple : D → E D
  | .lst ds => ep (.tup ds)
  | .tup ds => ep (.tup ds)
  | _ => eStuck
theorem o_list : Op1 C W (fun x H Q => ∃ p ys, [x] = [V.ref p] ∧ (SqL C.K H p ys ∨ SqT C.K H p ys) ∧ ∀ l, H l = none → Q (.ref l) (upd H l (.lst ys))) fList (RO C) := fun σ ρ F H z x dx Qd Xd Q S rx hm hq hx => by
  cases dx with
  | lst ds =>
    obtain ⟨a, xs, rfl, ha, r, _⟩ := RT.lst S.sub rx
    exact ⟨a, xs, rfl, .inl (.inl (.inl ha)), fun p hp => S.newL hp r hm hq⟩
  | tup ds =>
    obtain ⟨a, xs, rfl, ha, r⟩ := RT.tup S.sub rx
    exact ⟨a, xs, rfl, .inr ha, fun p hp => S.newL hp r hm hq⟩
  | _ => exact False.elim hm
theorem o_tuple : Op1 C W (fun x H Q => ∃ p ys, [x] = [V.ref p] ∧ ((SqL C.K H p ys ∧ ∀ l, H l = none → Q (.ref l) (upd H l (.tup ys))) ∨ (SqT C.K H p ys ∧ Q (.ref p) H))) fTuple (kR C) := fun σ ρ F H z x dx Qd Xd Q S rx hm hq hx => by
  cases dx with
  | lst ds =>
    obtain ⟨a, xs, rfl, ha, r, _⟩ := RT.lst S.sub rx
    exact ⟨a, xs, rfl, .inl ⟨.inl (.inl ha), fun p hp => S.newT hp r hm hq⟩⟩
  | tup ds =>
    have rx := rx.fro fun _ z => z
    cases rx with | tup q r =>
    exact ⟨_, _, rfl, .inr ⟨sqtSub S.sub q, S.same (R := kR C) hm (.tup q r) hq⟩⟩
  | _ => exact False.elim hm

/-! ## repr -/
mutual
theorem py_noDict : ∀ d : D, d.py.hasDict = false
  | .non => rfl
  | .bl _ => rfl
  | .int _ => rfl
  | .str _ => rfl
  | .lst xs => pyL_noDict xs
  | .tup xs => pyL_noDict xs
  | .cel => rfl
  | .ins _ _ _ => rfl
  | .dic _ _ => rfl
  | .exn _ _ _ _ => rfl
  | .scr _ => rfl
  | .mc _ => rfl
theorem pyL_noDict : ∀ ds : List D, PyData.hasDictAll (pyL ds) = false
  | [] => rfl
  | d :: r => by
    show (d.py.hasDict || PyData.hasDictAll (pyL r)) = false
    rw [py_noDict d, pyL_noDict r]
    rfl
end
def reprOk (d : D) : Prop := d.isPy = true ∧ d.py.showable = true ∧ d.py.depth ≤ 60 ∧ d.py.shown.length ≤ 16777216
def dRepr : P1
  | .lst ds, Q => reprOk (.lst ds) ∧ Q (.str (D.lst ds).py.shown)
  | .tup ds, Q => reprOk (.tup ds) ∧ Q (.str (D.tup ds).py.shown)
  | .int i, Q => i.natAbs.log2 < 1920 ∧ Q (.str (toString i))
  | _, _ => False
def rRepr (K : PySem.W.Frag) : List V → Hp → VK → Prop := fun xs H Q => (∃ i, xs = [V.int i] ∧ i.natAbs.log2 < 1920 ∧ Q (.str (toString i)) H) ∨
  ∃ (a : Addr) (d : PyData), xs = [V.ref a] ∧ Dp K H (.ref a) d ∧ d.hasDict = false ∧ d.showable = true ∧ d.depth ≤ 60 ∧ d.shown.length ≤ sizeLine ∧ Q (.str d.shown) H
theorem call_reprD (hg : X.A.guards = some []) (hu : X.A.units + 65 < cLine) : CallR X (.builtin "repr") (rRepr X.K) := by
  intro pins s σ H xs us Q I r h
  rcases h with ⟨i, rfl, h1, q⟩ | ⟨a, d, rfl, hd, hn, hs, hp, hz, q⟩
  · exact SkE.call_repr_int pins s σ H _ us Q I r ⟨i, rfl, h1, q⟩
  · cases r with
    | cons ru rn =>
      cases rn
      obtain rfl : _ = Value.ref a := ru
      obtain ⟨as, rd⟩ := Dp.reads I d (.ref a) (.ref a) hd rfl
      exact repr_of_reads' rd hs (PyData.noDict_hsm hn) hg (by omega) (fun _ _ e => e) (fun h' u tk hk => ⟨.str d.shown, H, I.kept (t' := tk) hk, ⟨u, rfl⟩, q⟩) hz
theorem o_repr : Op1 C W (fun x H Q => rRepr C.K [x] H Q) (fun d => eP (dRepr d)) (kR C) := op1_flat fun F H x dx Q Qd s rx hp hq => by
  cases dx with
  | int i => obtain rfl := RT.int rx; exact .inl ⟨i, rfl, hp.1, hq _ _ hp.2 (.str _)⟩
  | lst ds =>
    obtain ⟨⟨h1, h2, h3, h4⟩, q⟩ := hp
    have dp := RT.dp s rx h1
    obtain ⟨a, xs, rfl, _⟩ := RT.lst s rx
    exact .inr ⟨a, _, rfl, dp, py_noDict _, h2, h3, line_le h4, hq _ _ q (.str _)⟩
  | tup ds =>
    obtain ⟨⟨h1, h2, h3, h4⟩, q⟩ := hp
    have dp := RT.dp s rx h1
    obtain ⟨a, xs, rfl, _⟩ := RT.tup s rx
    exact .inr ⟨a, _, rfl, dp, py_noDict _, h2, h3, line_le h4, hq _ _ q (.str _)⟩
  | _ => exact hp.elim

/-! ### the calls by name -/
section
variable {p : Pos}
theorem xe_len (hK : X.K = C.K) (hg : Gl X "len") (hm : X.mg "len" = none) (ha : XP X C W a ma) (h1 : S1 X a := by rfl) : XE X C W (.Call (.Name "len" p) [a] [] pos) (eb ma fun d => eP (dLen d)) := xe_b1 call_len (by rw [hK]; exact o_len) ha hg hm rfl (by decide) (by decide) h1
theorem xe_abs (hg : Gl X "abs") (hm : X.mg "abs" = none) (ha : XP X C W a ma) (h1 : S1 X a := by rfl) : XE X C W (.Call (.Name "abs" p) [a] [] pos) (eb ma fun d => eP (dAbs d)) := xe_b1 call_abs o_abs ha hg hm rfl (by decide) (by decide) h1
theorem xe_int1 (hg : Gl X "int") (hm : X.mg "int" = none) (ha : XP X C W a ma) (h1 : S1 X a := by rfl) : XE X C W (.Call (.Name "int" p) [a] [] pos) (eb ma fun d => eP (dInt d)) := xe_t1 call_int1 o_int1 ha hg hm rfl (by decide) (by decide) h1
theorem xe_all (kx : Kx X C W k) (hg : Gl X "all") (hm : X.mg "all" = none) (ha : XP X C W a ma) (h1 : S1 X a := by rfl) : XE X C W (.Call (.Name "all" p) [a] [] pos) (eb ma fun d => eP (dAll d)) := xe_b1 (cr_all kx.calm) (by rw [kx.hK]; exact o_all) ha hg hm rfl (by decide) (by decide) h1
theorem xe_repr (kx : Kx X C W k) (hg : Gl X "repr") (hm : X.mg "repr" = none) (ha : XP X C W a ma) (h1 : S1 X a := by rfl) : XE X C W (.Call (.Name "repr" p) [a] [] pos) (eb ma fun d => eP (dRepr d)) := xe_b1 (call_reprD kx.gu kx.hu) (by rw [kx.hK]; exact o_repr) ha hg hm rfl (by decide) (by decide) h1
theorem xo_list (kx : Kx X C W k) (hg : Gl X "list") (hm : X.mg "list" = none) (ha : XP X C W a ma) (h1 : S1 X a := by rfl) : XO X C W (.Call (.Name "list" p) [a] [] pos) (eb ma fList) := xo_t1 call_list_of (by rw [kx.hK]; exact o_list) ha hg hm rfl (by decide) (by decide) h1
theorem xe_tuple (kx : Kx X C W k) (hg : Gl X "tuple") (hm : X.mg "tuple" = none) (ha : XP X C W a ma) (h1 : S1 X a := by rfl) : XE X C W (.Call (.Name "tuple" p) [a] [] pos) (eb ma fTuple) := xe_t1 call_tuple_of (by rw [kx.hK]; exact o_tuple) ha hg hm rfl (by decide) (by decide) h1
theorem xe_max2 (kx : Kx X C W k) (hg : Gl X "max") (hm : X.mg "max" = none) (ha : XP X C W a ma) (hb : XP X C W b mb) (hp : starEach (a :: [b]) X.env = (false, eval a X.env) :: starEach [b] X.env := by rfl) (hpl : (backTo pos (starEach [b] X.env)).any (·.1) = false := by rfl) (h1 : S1 X b := by rfl) :
    XE X C W (.Call (.Name "max" p) [a, b] [] pos) (eb ma fun x => eb mb fun y => eP (dMax x y)) := xe_b2 (call_max2 kx.calm) o_max ha hb hg hm rfl (by decide) (by decide) hp hpl h1
theorem xe_min2 (kx : Kx X C W k) (hg : Gl X "min") (hm : X.mg "min" = none) (ha : XP X C W a ma) (hb : XP X C W b mb) (hp : starEach (a :: [b]) X.env = (false, eval a X.env) :: starEach [b] X.env := by rfl) (hpl : (backTo pos (starEach [b] X.env)).any (·.1) = false := by rfl) (h1 : S1 X b := by rfl) :
    XE X C W (.Call (.Name "min" p) [a, b] [] pos) (eb ma fun x => eb mb fun y => eP (dMin x y)) := xe_b2 (call_min2 kx.calm) o_min ha hb hg hm rfl (by decide) (by decide) hp hpl h1
end
end
end DL

namespace DL
open PySem PySem.Spec PyProof.Rows L2

/-! ## what a loop walks -/
structure IterOk (K : PySem.W.Frag) (mg : Str → Option Value) (pa : Option Addr) (J : It) (ds : List D) (F : Hp) : Prop where
  stp : ∀ (C : CC) (σ : L2.St) (ρ : Rho) (F2 H : Hp) (z : Zs), C.K = K → C.mg = mg → C.pa = pa → StOk C σ ρ F2 H z → Same F F2 → ∀ i, ds[i]? = none → J.stop i H
  go : ∀ (C : CC) (σ : L2.St) (ρ : Rho) (F2 H : Hp) (z : Zs), C.K = K → C.mg = mg → C.pa = pa → StOk C σ ρ F2 H z → Same F F2 → ∀ i d, ds[i]? = some d → J.go i H ∧
    ∀ x H', J.yld i H x H' → ∃ F3, Same F2 F3 ∧ StOk C σ ρ F3 H' z ∧ Keep C.pa F2 F3 H H' ∧ C.R F3 x d
def DenI (C : CC) (W : WX) (t : TI) (m : E (List D)) : Prop :=
  ∀ (σ : L2.St) (ρ : Rho) (F H : Hp) (z : Zs) (Qd : List D → Rho → Zs → Prop) (Xd : Er → Rho → Zs → Prop) (R : It → Hp → Prop), StOk C σ ρ F H z → m ρ Qd Xd z →
    (∀ ds ρ' z' J F' H', Qd ds ρ' z' → StOk C σ ρ' F' H' z' → Same F F' → Keep C.pa F F' H H' → Ole ρ' ρ → IterOk C.K C.mg C.pa J ds F' → R J H') →
    (∀ e ρ' z' cls dd F' H', Xd e ρ' z' → StOk C σ ρ' F' H' z' → Same F F' → ExR C F' H' e cls dd → W cls dd σ H') → t σ H R
structure XI (X : Cx) (C : CC) (W : WX) (tg e : Expr) (m : E (List D)) : Prop where
  ex : ∃ t, PI X tg e t ∧ DenI C W t m
section
variable {K : PySem.W.Frag} {mg : Str → Option Value} {pa : Option Addr} {F : Hp}
theorem itl_ok {a : Addr} {xs : List V} {ds : List D} (h : F a = some (.lst xs)) (r : RpL K mg pa F xs ds) : IterOk K mg pa (Itl K a) ds F := by
  have hl := RpL.length r
  constructor
  · intro C σ ρ F2 H z eK em ep S ff i hi
    refine ⟨xs, .inl (.inl (S.sub _ _ (ff _ _ h) ngL)), ?_⟩
    rw [List.getElem?_eq_none_iff] at hi
    omega
  · intro C σ ρ F2 H z eK em ep S ff i d hi
    obtain ⟨v, e1, r1⟩ := RpL.get r hi
    have sq : SqL K H a xs := .inl (.inl (S.sub _ _ (ff _ _ h) ngL))
    refine ⟨⟨xs, v, sq, e1⟩, fun x H' y => ?_⟩
    obtain ⟨rfl, y⟩ := y
    have e2 := y xs sq
    rw [e1] at e2
    cases e2
    subst eK em ep
    exact ⟨F2, Same.refl F2, S, Keep.refl, Rp.mono ff r1⟩
theorem itt_ok {a : Addr} {xs : List V} {ds : List D} (h : SqT K F a xs) (r : RpL K mg pa F xs ds) : IterOk K mg pa (Itt K a) ds F := by
  have hl := RpL.length r
  constructor
  · intro C σ ρ F2 H z eK em ep S ff i hi
    refine ⟨xs, sqtSub S.sub (sqtSame ff h), ?_⟩
    rw [List.getElem?_eq_none_iff] at hi
    omega
  · intro C σ ρ F2 H z eK em ep S ff i d hi
    obtain ⟨v, e1, r1⟩ := RpL.get r hi
    have sq : SqT K H a xs := sqtSub S.sub (sqtSame ff h)
    refine ⟨⟨xs, v, sq, e1⟩, fun x H' y => ?_⟩
    obtain ⟨rfl, y⟩ := y
    have e2 := y xs sq
    rw [e1] at e2
    cases e2
    subst eK em ep
    exact ⟨F2, Same.refl F2, S, Keep.refl, Rp.mono ff r1⟩
def rngD (lo : Int) : Nat → List D
  | 0 => []
  | n + 1 => .int lo :: rngD (lo + 1) n
theorem rngD_get : ∀ (n : Nat) (lo : Int) (i : Nat), (rngD lo n)[i]? = if i < n then some (.int (lo + i)) else none
  | 0, lo, i => by simp [rngD]
  | n + 1, lo, 0 => by simp [rngD]
  | n + 1, lo, i + 1 => by
    show (rngD (lo + 1) n)[i]? = _
    rw [rngD_get n (lo + 1) i]
    by_cases h : i < n
    · rw [if_pos h, if_pos (by omega)]
      congr 2
      omega
    · rw [if_neg h, if_neg (by omega)]
theorem itr_ok {lo : Int} {n : Nat} : IterOk K mg pa (Itr lo n) (rngD lo n) F := by
  constructor
  · intro C σ ρ F2 H z eK em ep S ff i hi
    rw [rngD_get] at hi
    split at hi
    · cases hi
    · show n ≤ i
      omega
  · intro C σ ρ F2 H z eK em ep S ff i d hi
    rw [rngD_get] at hi
    split at hi
    · rename_i hlt
      cases hi
      refine ⟨hlt, fun x H' y => ?_⟩
      obtain ⟨rfl, rfl⟩ := y
      exact ⟨F2, Same.refl F2, S, Keep.refl, .int _⟩
    · cases hi
def enumD : Nat → List D → List D
  | _, [] => []
  | i, d :: r => .tup [.int i, d] :: enumD (i + 1) r
theorem enumD_get : ∀ (ds : List D) (k i : Nat), (enumD k ds)[i]? = (ds[i]?).map fun d => .tup [.int (k + i : Nat), d]
  | [], k, i => by simp [enumD]
  | d :: r, k, 0 => by simp [enumD]
  | d :: r, k, i + 1 => by
    show (enumD (k + 1) r)[i]? = _
    rw [enumD_get r (k + 1) i]
    have e : k + 1 + i = k + (i + 1) := by omega
    rw [e]
    rfl
theorem StOk.newTup {C : CC} {σ : L2.St} {ρ : Rho} {F H : Hp} {z : Zs} {p : Addr} {xs : List V} {ds : List D} (S : StOk C σ ρ F H z) (h : H p = none) (r : C.RL F xs ds) :
    ∃ F3, Same F F3 ∧ StOk C σ ρ F3 (upd H p (.tup xs)) z ∧ Keep C.pa F F3 H (upd H p (.tup xs)) ∧ C.R F3 (.ref p) (.tup ds) :=
  ⟨_, Same.new (S.free h), S.newF h ngT, Keep.newF h, .tup (.inl (.inl upd_same)) (RpL.mono (Same.new (S.free h)) r)⟩
theorem ite_ok {a : Addr} {xs : List V} {ds : List D} (h : F a = some (.lst xs)) (r : RpL K mg pa F xs ds) : IterOk K mg pa (Ite K a) (enumD 0 ds) F := by
  have hl := RpL.length r
  constructor
  · intro C σ ρ F2 H z eK em ep S ff i hi
    refine ⟨xs, .inl (.inl (S.sub _ _ (ff _ _ h) ngL)), ?_⟩
    rw [enumD_get, Option.map_eq_none_iff, List.getElem?_eq_none_iff] at hi
    omega
  · intro C σ ρ F2 H z eK em ep S ff i d hi
    rw [enumD_get, Option.map_eq_some_iff] at hi
    obtain ⟨d0, hi, rfl⟩ := hi
    obtain ⟨v, e1, r1⟩ := RpL.get r hi
    have sq : SqL K H a xs := .inl (.inl (S.sub _ _ (ff _ _ h) ngL))
    refine ⟨⟨xs, v, sq, e1⟩, fun x H' y => ?_⟩
    obtain ⟨T, u, rfl, hT, rfl, y⟩ := y
    have e2 := y xs sq
    rw [e1] at e2
    cases e2
    subst eK em ep
    have e3 : (0 + i : Nat) = i := by omega
    rw [e3]
    exact S.newTup hT (.cons (.int _) (.cons (Rp.mono ff r1) .nil))
def zipD : List D → List D → List D
  | a :: r, b :: q => .tup [a, b] :: zipD r q
  | _, _ => []
end

section
variable {X : Cx} {C : CC} {W : WX} {e a b c tg iter l : Expr} {es body : List Stmt} {m ma mb mc : E D} {pos p tpos : Pos} {k : Nat} {elts : List Expr} {kk : Nat}
/-! ### lists, tuples -/
def iSeq (K : PySem.W.Frag) (tl : TE) : TI := fun σ H R => tl σ H fun x H1 => ∃ a, x = V.ref a ∧ (((∃ xs, SqL K H1 a xs) ∧ R (Itl K a) H1) ∨ ((∃ xs, SqT K H1 a xs) ∧ R (Itt K a) H1))
theorem pi_seq {tl : TE} (hl : PE X l tl) : PI X tg l (iSeq X.K tl) := by
  constructor
  intro pins s σ H R I h
  have step := hl.run pins s σ H _ I h
  refine thn step ?_
  rintro v s1 ⟨x, H1, I1, r1, a, ex, q⟩
  subst ex
  obtain rfl : v = Value.ref a := r1
  rcases q with ⟨⟨xs, hs⟩, q⟩ | ⟨⟨xs, hs⟩, q⟩
  · obtain ⟨its, rv, p, _⟩ := I1.list hs
    apply wpAny_pyIter_list p.isList
    have ig := I1.kept (t' := s1.toks) (fun b o e => Heap.get?_push_of_some { cls := .type "list_iterator", data := .fields #[.ref a, .int 0 0] } e)
    refine ⟨_, [s1.heap.objs.size], _, _, H1, rfl, ig, turn_list a _, ?_, ?_, q⟩
    · exact ⟨_, Heap.get?_push_size _ rfl, rfl, rfl⟩
    · intro b hb
      rw [List.mem_singleton] at hb
      rw [hb]
      exact I1.fpOk (Nat.le_refl _) I1.fresh
  · obtain ⟨its, rv, p, _⟩ := I1.tuple hs
    apply wpAny_pyIter_tuple (items := its.toArray) p
    have ig := I1.kept (t' := s1.toks) (fun b o e => Heap.get?_push_of_some { cls := .type "tuple_iterator", data := .fields #[.ref a, .int 0 0] } e)
    refine ⟨_, [s1.heap.objs.size], _, _, H1, rfl, ig, turn_tuple a _, ?_, ?_, q⟩
    · exact ⟨_, Heap.get?_push_size _ rfl, rfl, rfl⟩
    · intro b hb
      rw [List.mem_singleton] at hb
      rw [hb]
      exact I1.fpOk (Nat.le_refl _) I1.fresh
def fSeqI : D → E (List D)
  | .lst ds => ep ds
  | .tup ds => ep ds
  | _ => eStuck
theorem xi_seq (hK : X.K = C.K) (h : XE X C W l m) : XI X C W tg l (eb m fSeqI) := by
  obtain ⟨t, h1, h2⟩ := h.ex
  refine ⟨_, pi_seq h1, fun σ ρ F H z Qd Xd R S hm hq hx => h2 σ ρ F H z _ Xd _ S hm (fun d ρ1 z1 v F1 H1 q1 S1 ff1 k1 o1 r1 => ?_) hx⟩
  rw [hK]
  cases d with
  | lst ds =>
    cases r1 with | lst n q r =>
    exact ⟨_, rfl, .inl ⟨⟨_, .inl (.inl (S1.sub _ _ q ngL))⟩, hq _ _ _ _ _ _ q1 S1 ff1 k1 o1 (itl_ok q r)⟩⟩
  | tup ds =>
    cases r1 with | tup q r =>
    exact ⟨_, rfl, .inr ⟨⟨_, sqtSub S1.sub q⟩, hq _ _ _ _ _ _ q1 S1 ff1 k1 o1 (itt_ok q r)⟩⟩
  | _ => exact False.elim q1
/-! ### range -/
def fRng1 : List D → E (List D)
  | [.int j] => fun ρ Q _ z => (-(2 ^ 62) ≤ j ∧ j < 2 ^ 62) ∧ Q (rngD 0 j.toNat) ρ z
  | _ => eStuck
def fRng2 : List D → E (List D)
  | [.int i, .int j] => fun ρ Q _ z => (-(2 ^ 62) ≤ i ∧ i < 2 ^ 62 ∧ -(2 ^ 62) ≤ j ∧ j < 2 ^ 62) ∧ Q (rngD i (j - i).toNat) ρ z
  | _ => eStuck
theorem xi_range1 {ms : E (List D)} (ha : XA X C W [a] ms) (hg : Gl X "range") (hm : X.mg "range" = none) (hs : starEach [a] X.env = [(false, eval a X.env)] := by rfl) : XI X C W tg (.Call (.Name "range" p) [a] [] pos) (eb ms fRng1) := by
  obtain ⟨t, h1, h2⟩ := ha.ex
  refine ⟨_, pi_range1 hg hm h1 hs, fun σ ρ F H z Qd Xd R S hm hq hx => h2 σ ρ F H z _ Xd _ S hm (fun ds ρ1 z1 vs F1 H1 q1 S1 ff1 k1 o1 r1 => ?_) hx⟩
  unfold fRng1 at q1
  split at q1
  · cases r1 with | cons r rr =>
    cases rr
    cases r
    exact ⟨_, rfl, q1.1.1, q1.1.2, hq _ _ _ _ _ _ q1.2 S1 ff1 k1 o1 itr_ok⟩
  · exact False.elim q1
theorem xi_range2 {ms : E (List D)} (ha : XA X C W [a, b] ms) (hg : Gl X "range") (hm : X.mg "range" = none) (hs : starEach [a, b] X.env = [(false, eval a X.env), (false, eval b X.env)] := by rfl) (hs2 : starEach [b] X.env = [(false, eval b X.env)] := by rfl) :
    XI X C W tg (.Call (.Name "range" p) [a, b] [] pos) (eb ms fRng2) := by
  obtain ⟨t, h1, h2⟩ := ha.ex
  refine ⟨_, pi_range2 hg hm h1 hs hs2, fun σ ρ F H z Qd Xd R S hm hq hx => h2 σ ρ F H z _ Xd _ S hm (fun ds ρ1 z1 vs F1 H1 q1 S1 ff1 k1 o1 r1 => ?_) hx⟩
  unfold fRng2 at q1
  split at q1
  · cases r1 with | cons r rr =>
    cases rr with | cons r' rr =>
    cases rr
    cases r
    cases r'
    exact ⟨_, _, rfl, q1.1, hq _ _ _ _ _ _ q1.2 S1 ff1 k1 o1 itr_ok⟩
  · exact False.elim q1
/-! ### enumerate, zip -/
def fEnum : List D → E (List D)
  | [.lst ds] => ep (enumD 0 ds)
  | _ => eStuck
def fZip : List D → E (List D)
  | [.lst ds, .lst es] => ep (zipD ds es)
  | _ => eStuck
theorem xi_enum {ms : E (List D)} (hK : X.K = C.K) (ha : XA X C W [e] ms) (hg : Gl X "enumerate") (hm : X.mg "enumerate" = none) (hs : starEach [e] X.env = [(false, eval e X.env)] := by rfl) :
    XI X C W (.Tuple elts kk tpos) (.Call (.Name "enumerate" p) [e] [] pos) (eb ms fEnum) := by
  obtain ⟨t, h1, h2⟩ := ha.ex
  refine ⟨_, pi_enum hg hm h1 hs, fun σ ρ F H z Qd Xd R S hm hq hx => h2 σ ρ F H z _ Xd _ S hm (fun ds ρ1 z1 vs F1 H1 q1 S1 ff1 k1 o1 r1 => ?_) hx⟩
  unfold fEnum at q1
  rw [hK]
  split at q1
  · cases r1 with | cons r rr =>
    cases rr
    cases r with | lst n q r =>
    exact ⟨_, _, rfl, .inl (.inl (S1.sub _ _ q ngL)), hq _ _ _ _ _ _ q1 S1 ff1 k1 o1 (ite_ok q r)⟩
  · exact False.elim q1
def forK (rest : E Fl) : Fl → E Fl
  | .nx => rest
  | .ct => rest
  | .bk => ep .nx
  | .ret d => ep (.ret d)
  | .retO ds => ep (.retO ds)
def forL (tg : Tg) (mb : E Fl) : List D → E Fl
  | [] => ep .nx
  | d :: ds => fun ρ Q X z => tg d ρ fun ρ1 => mb ρ1 (fun fl ρ2 z2 => forK (forL tg mb ds) fl ρ2 Q X z2) X z
def sFor (mi : E (List D)) (tg : Tg) (mb : E Fl) : E Fl := eb mi fun ds => forL tg mb ds
theorem xs_for {mi : E (List D)} {mbody : E Fl} {is : List Nat} {g : Tg} {body : List Stmt} (kx : Kx X C W k) (hi : XI X C W tg iter mi) (hg : XG X C tg is g) (hb : XSs X C W body mbody)
    (hs : ∀ x, foldedSetIterable iter X.env x = pure x := by intro _; rfl) : XS X C W (.For tg iter body [] pos) (sFor mi g mbody) := by
  obtain ⟨wi, i1, i2⟩ := hi.ex
  obtain ⟨gg, g1, g2⟩ := hg.ex
  obtain ⟨tb, b1, b2⟩ := hb.ex
  refine ⟨_, ps_for kx.po kx.calm i1 g1 b1 hs, fun σ ρ F H z Qd Xd Dn S hm hq hx => ?_⟩
  refine i2 σ ρ F H z _ Xd _ S hm (fun ds ρ1 z1 J F1 H1 q1 S1 ff1 k1 o1 it => ?_) (fun e ρ' z' cls dd F' H' q S' ff r => hx e ρ' z' cls dd σ F' H' q S' ff r)
  refine ⟨fun i m σ' H' => m = ds.length - i ∧ i ≤ ds.length ∧ ∃ ρ' F' z', StOk C σ' ρ' F' H' z' ∧ Same F1 F' ∧ forL g mbody (ds.drop i) ρ' Qd Xd z', ⟨ds.length, by simp, Nat.zero_le _, ρ1, F1, z1, S1, Same.refl _, q1⟩, ?_⟩
  rintro i m σ2 H2 ⟨rfl, hi, ρ2, F2, z2, S2, ff2, q2⟩
  cases hd : ds[i]? with
  | none =>
    have hl : ds.length ≤ i := List.getElem?_eq_none_iff.mp hd
    rw [List.drop_eq_nil_of_le hl] at q2
    exact .inl ⟨it.stp C σ2 ρ2 F2 H2 z2 rfl rfl rfl S2 ff2 i hd, hq _ _ _ _ _ q2 (ff1.trans ff2) σ2 S2⟩
  | some d =>
    obtain ⟨hlt, hget⟩ := List.getElem?_eq_some_iff.mp hd
    rw [List.drop_eq_getElem_cons hlt, hget] at q2
    obtain ⟨go, yl⟩ := it.go C σ2 ρ2 F2 H2 z2 rfl rfl rfl S2 ff2 i d hd
    refine .inr ⟨go, fun σ' H' => ∃ ρ' F' z', StOk C σ' ρ' F' H' z' ∧ Same F1 F' ∧ forL g mbody (ds.drop (i + 1)) ρ' Qd Xd z', fun σ' H' w => ⟨_, by omega, rfl, hlt, w⟩, fun x H3 y => ?_⟩
    obtain ⟨F3, ff3, S3, k3, r3⟩ := yl x H3 y
    refine g2 σ2 ρ2 F3 H3 z2 x d _ _ S3 r3 q2 (fun σ4 ρ4 q4 S4 _ _ => ?_)
    refine b2 σ4 ρ4 F3 H3 z2 _ Xd _ S4 q4 (fun fl ρ5 z5 F5 H5 q5 ff5 => ?_) (fun e ρ' z' cls dd σ' F' H' q S' ff r => hx e ρ' z' cls dd σ' F' H' q S' (((ff1.trans ff2).trans ff3).trans ff) r)
    have ffa : Same F F5 := ((ff1.trans ff2).trans ff3).trans ff5
    cases fl with
    | nx => exact fun σ5 S5 => ⟨ρ5, F5, z5, S5, (ff2.trans ff3).trans ff5, q5⟩
    | ct => exact fun σ5 S5 => ⟨ρ5, F5, z5, S5, (ff2.trans ff3).trans ff5, q5⟩
    | bk => exact fun σ5 S5 => hq .nx ρ5 z5 F5 H5 q5 ffa σ5 S5
    | ret d => exact hq (.ret d) ρ5 z5 F5 H5 q5 ffa
    | retO d => exact hq (.retO d) ρ5 z5 F5 H5 q5 ffa
def whL (mt : E Bool) (mb : E Fl) : Nat → E Fl
  | 0 => eStuck
  | n + 1 => eb mt fun t => if t = true then (fun ρ Q X z => mb ρ (fun fl ρ2 z2 => forK (whL mt mb n) fl ρ2 Q X z2) X z) else ep .nx
def sWhile (mt : E Bool) (mb : E Fl) : E Fl := fun ρ Q X z => ∃ n, whL mt mb n ρ Q X z
theorem xs_while {mt : E Bool} {mbody : E Fl} {body : List Stmt} (kx : Kx X C W k) (hc : XT X C W c mt) (hb : XSs X C W body mbody) : XS X C W (.While c body [] pos) (sWhile mt mbody) := by
  obtain ⟨tc, c1, c2⟩ := hc.ex
  obtain ⟨tb, b1, b2⟩ := hb.ex
  refine ⟨_, ps_while kx.po c1 b1, fun σ ρ F H z Qd Xd Dn S hm hq hx => ?_⟩
  obtain ⟨n, hn⟩ := hm
  refine ⟨fun m σ' H' => ∃ ρ' F' z', StOk C σ' ρ' F' H' z' ∧ Same F F' ∧ whL mt mbody m ρ' Qd Xd z', ⟨n, ρ, F, z, S, Same.refl _, hn⟩, ?_⟩
  rintro m σ1 H1 ⟨ρ1, F1, z1, S1, ff1, q1⟩
  cases m with
  | zero => exact False.elim q1
  | succ m =>
    refine c2 σ1 ρ1 F1 H1 z1 _ Xd _ S1 q1 (fun bb ρ2 z2 b F2 H2 q2 S2 ff2 k2 o2 r2 => ?_) (fun e ρ' z' cls dd F' H' q S' ff r => hx e ρ' z' cls dd σ1 F' H' q S' (ff1.trans ff) r)
    obtain rfl : b = bb := r2
    cases b with
    | false => exact hq .nx ρ2 z2 F2 H2 q2 (ff1.trans ff2) σ1 S2
    | true =>
      refine ⟨fun σ' H' => ∃ ρ' F' z', StOk C σ' ρ' F' H' z' ∧ Same F F' ∧ whL mt mbody m ρ' Qd Xd z', fun σ' H' w => ⟨m, Nat.lt_succ_self m, w⟩, ?_⟩
      refine b2 σ1 ρ2 F2 H2 z2 _ Xd _ S2 q2 (fun fl ρ5 z5 F5 H5 q5 ff5 => ?_) (fun e ρ' z' cls dd σ' F' H' q S' ff r => hx e ρ' z' cls dd σ' F' H' q S' ((ff1.trans ff2).trans ff) r)
      have ffa : Same F F5 := (ff1.trans ff2).trans ff5
      cases fl with
      | nx => exact fun σ5 S5 => ⟨ρ5, F5, z5, S5, ffa, q5⟩
      | ct => exact fun σ5 S5 => ⟨ρ5, F5, z5, S5, ffa, q5⟩
      | bk => exact fun σ5 S5 => hq .nx ρ5 z5 F5 H5 q5 ffa σ5 S5
      | ret d => exact hq (.ret d) ρ5 z5 F5 H5 q5 ffa
      | retO d => exact hq (.retO d) ρ5 z5 F5 H5 q5 ffa
end
end DL

namespace DL
open PySem PySem.Spec PyProof.Rows L2

/-! ## comprehensions -/
abbrev CC.hide (C : CC) (a : Addr) : CC := { C with hid := a :: C.hid }
abbrev wN : WX := fun _ _ _ _ => False
def wipeR (ρ : Rho) : List Nat → Rho
  | [] => ρ
  | v :: vs => (wipeR ρ vs).set v .no
theorem wipeR_length (ρ : Rho) : ∀ vs, (wipeR ρ vs).length = ρ.length
  | [] => rfl
  | v :: vs => by unfold wipeR; rw [List.length_set, wipeR_length ρ vs]
theorem wipeR_some {ρ : Rho} {i : Nat} {s : Sl} : ∀ {vs : List Nat}, (wipeR ρ vs)[i]? = some s → s = .no ∨ (i ∉ vs ∧ ρ[i]? = some s)
  | [], h => .inr ⟨by simp, h⟩
  | v :: vs, h => by
    unfold wipeR at h
    rcases get_set h with ⟨_, h2, _⟩ | ⟨h1, h2⟩
    · exact .inl h2
    · rcases wipeR_some h2 with h3 | ⟨h3, h4⟩
      · exact .inl h3
      · exact .inr ⟨by simp only [List.mem_cons, not_or]; exact ⟨h1, h3⟩, h4⟩
theorem wipe_in {σ : L2.St} {i : Nat} : ∀ {vs : List Nat}, i ∈ vs → (wipe σ vs)[i]? = if i < σ.length then some none else none
  | v :: vs, h => by
    unfold wipe
    by_cases hv : v = i
    · subst hv
      by_cases hl : v < σ.length
      · rw [if_pos hl, List.getElem?_set_self (by rw [wipe_length]; exact hl)]
      · rw [if_neg hl, List.getElem?_eq_none (by rw [List.length_set, wipe_length]; omega)]
    · rw [List.getElem?_set_ne hv]
      exact wipe_in ((List.mem_cons.mp h).resolve_left fun e => hv e.symm)
theorem wipe_eq {σ σ' : L2.St} {vs is : List Nat} (hs : ∀ i ∈ is, i ∈ vs) (h : ∀ j, j ∉ is → σ'[j]? = (wipe σ vs)[j]?) (hl : σ'.length = (wipe σ vs).length) : wipe σ' vs = wipe σ vs := by
  apply List.ext_getElem?
  intro i
  by_cases hi : i ∈ vs
  · rw [wipe_in hi, wipe_in hi, hl, wipe_length]
  · rw [wipe_out hi, h i fun m => hi (hs i m)]
section
variable {C : CC} {σ σ' : L2.St} {ρ ρ' : Rho} {F H : Hp} {z : Zs} {p : Addr} {vs : List Nat}
theorem StOk.slots (S : StOk C σ ρ F H z) (hl : σ'.length = ρ'.length) (h : ∀ (i : Nat) s, ρ'[i]? = some s → s = .no ∨ (ρ[i]? = some s ∧ σ'[i]? = σ[i]?)) : StOk C σ' ρ' F H z := by
  refine ⟨S.sub, S.f0, S.h0, S.nw, hl, fun i v s e1 e2 => ?_, fun i j x y a e1 e2 e3 e4 => ?_, S.pz, S.hd, S.cs⟩
  · rcases h i s e2 with e | ⟨e, e'⟩
    · subst e; cases v <;> trivial
    · exact S.env i v s (by rw [← e']; exact e1) e
  · rcases h i _ e1 with q | ⟨q, q'⟩
    · cases q
    · rcases h j _ e2 with r | ⟨r, r'⟩
      · cases r
      · exact S.apart i j x y a q r (by rw [← q']; exact e3) (by rw [← r']; exact e4)
theorem StOk.wipe (S : StOk C σ ρ F H z) : StOk C (L2.wipe σ vs) (wipeR ρ vs) F H z :=
  S.slots (by rw [wipe_length, wipeR_length]; exact S.len) fun i s e => by
    rcases wipeR_some e with h | ⟨h1, h2⟩
    · exact .inl h
    · exact .inr ⟨h2, wipe_out h1⟩
theorem StOk.hideN (S : StOk C σ ρ F H z) (h : H p = none) : StOk (C.hide p) σ ρ F (upd H p (.lst [])) z := by
  have S' := S.newH (o := .lst []) h
  refine ⟨S'.sub, S'.f0, S'.h0, S'.nw, S'.len, fun i v s e1 e2 => ?_, S'.apart, S'.pz, fun b hb => ?_, S'.cs⟩
  · have q := S.env i v s e1 e2
    cases s with
    | no => cases v <;> trivial
    | fr d =>
      cases v with
      | none => exact q.elim
      | some v => exact q
    | own ds =>
      cases v with
      | none => exact q.elim
      | some v =>
        obtain ⟨a, xs, rfl, ha, hf, h0, np, r, nh⟩ := q
        have ne : a ≠ p := fun e => by rw [e, h] at ha; cases ha
        exact ⟨a, xs, rfl, by rw [upd_ne ne]; exact ha, hf, h0, np, r, fun m => (List.mem_cons.mp m).elim ne nh⟩
  · rcases List.mem_cons.mp hb with e | hb
    · subst e
      exact ⟨S.free h, ⟨_, upd_same⟩, S.npa h⟩
    · exact S'.hd b hb
theorem StOk.unhide (S : StOk (C.hide p) σ ρ F H z) : StOk C σ ρ F H z :=
  ⟨S.sub, S.f0, S.h0, S.nw, S.len, fun i v s e1 e2 => by
    have q := S.env i v s e1 e2
    cases s with
    | no => cases v <;> trivial
    | fr d =>
      cases v with
      | none => exact q.elim
      | some v => exact q
    | own ds =>
      cases v with
      | none => exact q.elim
      | some v =>
        obtain ⟨a, xs, rfl, ha, hf, h0, np, r, nh⟩ := q
        exact ⟨a, xs, rfl, ha, hf, h0, np, r, fun m => nh (List.mem_cons_of_mem _ m)⟩, S.apart, S.pz, fun b hb => S.hd b (List.mem_cons_of_mem _ hb), S.cs⟩
theorem StOk.leave {ρx : Rho} (S : StOk (C.hide p) (L2.wipe σ vs) (wipeR ρx vs) F H z) : StOk C σ (wipeR ρx vs) F H z := by
  refine S.unhide.slots (by have := S.len; rw [wipe_length] at this; exact this) fun i s e => ?_
  rcases wipeR_some e with h | ⟨h1, h2⟩
  · exact .inl h
  · exact .inr ⟨e, (wipe_out h1).symm⟩
/-- an object hidden from the slots changes -/
theorem StOk.hidUpd {o : HO} (S : StOk C σ ρ F H z) (hp : p ∈ C.hid) (h0 : C.H0 p = none) : StOk C σ ρ F (upd H p o) z := by
  obtain ⟨hf, ⟨o', ho⟩, np⟩ := S.hd p hp
  refine ⟨Sub.updR S.sub hf, S.f0, S.h0.updH h0, S.nw, S.len, fun i v s e1 e2 => ?_, S.apart, fun q e => ?_, fun b hb => ?_, S.cs.grow (Same.refl F) (fun _ _ e => e) fun a k u e1 e2 => by rw [upd_ne (ne_of_none e1 hf)]; exact e2⟩
  · have q := S.env i v s e1 e2
    cases s with
    | no => cases v <;> trivial
    | fr d =>
      cases v with
      | none => exact q.elim
      | some v => exact q
    | own ds =>
      cases v with
      | none => exact q.elim
      | some v =>
        obtain ⟨a, xs, rfl, ha, hf, h0, np, r, nh⟩ := q
        have ne : a ≠ p := fun e => nh (by rw [e]; exact hp)
        exact ⟨a, xs, rfl, by rw [upd_ne ne]; exact ha, hf, h0, np, r, nh⟩
  · obtain ⟨h1, x, y, h2, r⟩ := S.pz q e
    have ne : q ≠ p := fun w => np (by rw [← w]; exact e.symm)
    exact ⟨h1, x, y, by rw [upd_ne ne]; exact h2, r⟩
  · obtain ⟨h1, ⟨u, h2⟩, h3⟩ := S.hd b hb
    by_cases e : b = p
    · subst e; exact ⟨h1, ⟨o, upd_same⟩, h3⟩
    · exact ⟨h1, ⟨u, by rw [upd_ne e]; exact h2⟩, h3⟩
end

structure XTs (X : Cx) (C : CC) (W : WX) (ifs : List Expr) (m : E Bool) : Prop where
  ex : ∃ t, PTs X ifs t ∧ Den C W t m kB
section
variable {X : Cx} {C : CC} {W : WX} {e elt tg iter : Expr} {ifs : List Expr} {m ma mb mc : E D} {pos p2 : Pos} {k : Nat} {scope : Scope} {own : List (Str × Nat)}
theorem xts_nil : XTs X C W [] (ep true) := ⟨tYes, pts_nil, fun σ ρ F H z Qd Xd Q S hm hq hx => S.same (R := kB) hm rfl hq⟩
theorem xts_one {mt : E Bool} (h : XT X C W e mt) : XTs X C W [e] mt := by
  obtain ⟨t, h1, h2⟩ := h.ex
  exact ⟨t, pts_one h1, h2⟩
theorem kx_blk {s : Shared} {H : Hp} {cenv : PySem.Env} {fp : List Addr} {D : Addr} (kx : Kx X C W k) : Kx (X.blk s H scope cenv fp) (C.hide D) wN k :=
  ⟨kx.hK, kx.hmg, kx.calm, kx.gu, kx.room, fun u s' ⟨_, _, _, _, _, _, _, _, _, _, _, _, _, _, _, _, w⟩ => w.elim, kx.nd, PassesOwn.never⟩
def lcL (vs : List Nat) (tg : Tg) (mt : E Bool) (me : E D) : List D → List D → E (List D)
  | [], acc => ep acc
  | d :: ds, acc => fun ρ Q X z => tg d ρ fun ρ1 => mt ρ1 (fun t ρ2 z2 => if t = true then me ρ2 (fun y ρ3 z3 => acc.length < 16777216 ∧ lcL vs tg mt me ds (acc ++ [y]) (wipeR ρ3 vs) Q X z3) (fun _ _ _ => False) z2 else lcL vs tg mt me ds acc (wipeR ρ2 vs) Q X z2) (fun _ _ _ => False) z
def eLc (vs : List Nat) (mi : E (List D)) (tg : Tg) (mt : E Bool) (me : E D) : E (List D) := eb mi fun ds ρ Q X z => lcL vs tg mt me ds [] (wipeR ρ vs) Q X z
abbrev Bk (X : Cx) (scope : Scope) (s : Shared) (H : Hp) (Cc : Addr) (cl : List (Str × Addr)) (fp : List Addr) : Cx := X.blk s H scope (compEnvC scope cl Cc X.env) fp
theorem RpL.app1 {K : PySem.W.Frag} {mg : Str → Option Value} {pa : Option Addr} {F : Hp} {vs : List V} {ds : List D} {v : V} {d : D} (h : RpL K mg pa F vs ds) (r : Rp K mg pa F v d) : RpL K mg pa F (vs ++ [v]) (ds ++ [d]) := RpL.append h (.cons r .nil)
theorem lc_den {mi : E (List D)} {g : Tg} {is : List Nat} {mt : E Bool} {me : E D} (kx : Kx X C W k) (hi : XI X C W tg iter mi)
    (hg : ∀ (s : Shared) (H : Hp) (Cc : Addr) (cl : List (Str × Addr)) (fp : List Addr) (D : Addr), Kx (Bk X scope s H Cc cl fp) (C.hide D) wN k → XG (Bk X scope s H Cc cl fp) (C.hide D) tg is g)
    (ht : ∀ (s : Shared) (H : Hp) (Cc : Addr) (cl : List (Str × Addr)) (fp : List Addr) (D : Addr), Kx (Bk X scope s H Cc cl fp) (C.hide D) wN k → XTs (Bk X scope s H Cc cl fp) (C.hide D) wN ifs mt)
    (he : ∀ (s : Shared) (H : Hp) (Cc : Addr) (cl : List (Str × Addr)) (fp : List Addr) (D : Addr), Kx (Bk X scope s H Cc cl fp) (C.hide D) wN k → XE (Bk X scope s H Cc cl fp) (C.hide D) wN elt me)
    (his : ∀ i ∈ is, i ∈ own.map (·.2)) :
    ∃ (wi : TI) (gU : TG) (tU : TT) (eU : TE), PI X tg iter wi ∧ (∀ (s : Shared) (H : Hp) (Cc : Addr) (cl : List (Str × Addr)) (fp : List Addr), PG (X.blk s H scope (compEnvC scope cl Cc X.env) fp) tg gU) ∧
      (∀ (s : Shared) (H : Hp) (Cc : Addr) (cl : List (Str × Addr)) (fp : List Addr), PTs (X.blk s H scope (compEnvC scope cl Cc X.env) fp) ifs tU) ∧
      (∀ (s : Shared) (H : Hp) (Cc : Addr) (cl : List (Str × Addr)) (fp : List Addr), PE (X.blk s H scope (compEnvC scope cl Cc X.env) fp) elt eU) ∧
      Den C W (tLc wi gU tU eU (own.map (·.2))) (eLc (own.map (·.2)) mi g mt me) (RO C) := by
  obtain ⟨wi, i1, i2⟩ := hi.ex
  let gU : TG := fun v σ H Q => ∀ s H2 Cc cl fp, ∃ g', PG (Bk X scope s H2 Cc cl fp) tg g' ∧ g' v σ H Q
  let tU : TT := fun σ H Q => ∀ s H2 Cc cl fp, ∃ t', PTs (Bk X scope s H2 Cc cl fp) ifs t' ∧ t' σ H Q
  let eU : TE := fun σ H Q => ∀ s H2 Cc cl fp, ∃ t', PE (Bk X scope s H2 Cc cl fp) elt t' ∧ t' σ H Q
  have gP : ∀ (s : Shared) (H : Hp) (Cc : Addr) (cl : List (Str × Addr)) (fp : List Addr), PG (X.blk s H scope (compEnvC scope cl Cc X.env) fp) tg gU := fun s H Cc cl fp => ⟨fun pins s1 σ H1 v u Q I r h => by
    obtain ⟨g', p1, p2⟩ := h s H Cc cl fp
    exact p1.run pins s1 σ H1 v u Q I r p2⟩
  have tP : ∀ (s : Shared) (H : Hp) (Cc : Addr) (cl : List (Str × Addr)) (fp : List Addr), PTs (X.blk s H scope (compEnvC scope cl Cc X.env) fp) ifs tU := fun s H Cc cl fp => ⟨fun pins s1 σ H1 Q I h => by
    obtain ⟨g', p1, p2⟩ := h s H Cc cl fp
    exact p1.run pins s1 σ H1 Q I p2⟩
  have eP : ∀ (s : Shared) (H : Hp) (Cc : Addr) (cl : List (Str × Addr)) (fp : List Addr), PE (X.blk s H scope (compEnvC scope cl Cc X.env) fp) elt eU := fun s H Cc cl fp => ⟨fun pins s1 σ H1 Q I h => by
    obtain ⟨g', p1, p2⟩ := h s H Cc cl fp
    exact p1.run pins s1 σ H1 Q I p2⟩
  have gD : ∀ D, DenG (C.hide D) gU is g := fun D σ ρ F H z v d Qd Q S r hm hq s H2 Cc cl fp => by
    obtain ⟨g', p1, p2⟩ := (hg s H2 Cc cl fp D (kx_blk kx)).ex
    exact ⟨g', p1, p2 σ ρ F H z v d Qd Q S r hm hq⟩
  have tD : ∀ D, Den (C.hide D) wN tU mt kB := fun D σ ρ F H z Qd Xd Q S hm hq hx s H2 Cc cl fp => by
    obtain ⟨g', p1, p2⟩ := (ht s H2 Cc cl fp D (kx_blk kx)).ex
    exact ⟨g', p1, p2 σ ρ F H z Qd Xd Q S hm hq hx⟩
  have eD : ∀ D, Den (C.hide D) wN eU me (kR C) := fun D σ ρ F H z Qd Xd Q S hm hq hx s H2 Cc cl fp => by
    obtain ⟨g', p1, p2⟩ := (he s H2 Cc cl fp D (kx_blk kx)).ex
    exact ⟨g', p1, p2 σ ρ F H z Qd Xd Q S hm hq hx⟩
  refine ⟨wi, gU, tU, eU, i1, gP, tP, eP, fun σ ρ F H z Qd Xd Q S hm hq hx => ?_⟩
  refine i2 σ ρ F H z _ Xd _ S hm (fun ds ρ1 z1 J F1 H1 q1 S1 ff1 k1 o1 it => ?_) hx
  intro D hD
  have h0D : C.H0 D = none := S1.h0None hD (S1.npa hD)
  have npD := S1.npa hD
  have oW : ∀ {ρa : Rho}, Ole ρa ρ1 → Ole (wipeR ρa (own.map (·.2))) ρ1 := fun {ρa} o i ys e => by
    rcases wipeR_some e with h | ⟨_, h⟩
    · cases h
    · exact o i ys h
  refine ⟨fun i m H' => m = ds.length - i ∧ i ≤ ds.length ∧ ∃ ρx F' z' acc xs, StOk (C.hide D) (wipe σ (own.map (·.2))) (wipeR ρx (own.map (·.2))) F' H' z' ∧ Same F1 F' ∧ Keep C.pa F1 F' H1 H' ∧ Ole (wipeR ρx (own.map (·.2))) ρ1 ∧ H' D = some (.lst xs) ∧ C.RL F' xs acc ∧
      lcL (own.map (·.2)) g mt me (ds.drop i) acc (wipeR ρx (own.map (·.2))) Qd Xd z', ⟨ds.length, by simp, Nat.zero_le _, ρ1, F1, z1, [], [], (S1.hideN hD).wipe, Same.refl _, Keep.new hD, oW Ole.refl, upd_same, .nil, q1⟩, ?_⟩
  rintro i m H2 ⟨rfl, hi, ρx, F2, z2, acc, xs, S2, ff2, k2, o2, hx2, rx2, q2⟩
  cases hd : ds[i]? with
  | none =>
    have hl : ds.length ≤ i := List.getElem?_eq_none_iff.mp hd
    rw [List.drop_eq_nil_of_le hl] at q2
    refine .inl ⟨it.stp (C.hide D) _ _ F2 H2 z2 rfl rfl rfl S2 ff2 i hd, ?_⟩
    have hH : H D = none := by
      cases q : H D with
      | none => rfl
      | some o => exact absurd hD (k1.dm D (by rw [q]; simp))
    exact hq acc _ z2 _ F2 H2 q2 S2.leave (ff1.trans ff2) (k1.trans k2) (o2.trans o1) ⟨D, xs, rfl, hx2, (S2.hd D List.mem_cons_self).1, hH, npD, rx2⟩
  | some d =>
    obtain ⟨hlt, hget⟩ := List.getElem?_eq_some_iff.mp hd
    rw [List.drop_eq_getElem_cons hlt, hget] at q2
    obtain ⟨go, yl⟩ := it.go (C.hide D) _ _ F2 H2 z2 rfl rfl rfl S2 ff2 i d hd
    refine .inr ⟨go, fun H' => ∃ ρx F' z' acc xs, StOk (C.hide D) (wipe σ (own.map (·.2))) (wipeR ρx (own.map (·.2))) F' H' z' ∧ Same F1 F' ∧ Keep C.pa F1 F' H1 H' ∧ Ole (wipeR ρx (own.map (·.2))) ρ1 ∧ H' D = some (.lst xs) ∧ C.RL F' xs acc ∧
      lcL (own.map (·.2)) g mt me (ds.drop (i + 1)) acc (wipeR ρx (own.map (·.2))) Qd Xd z', fun H' w => ⟨_, by omega, rfl, hlt, w⟩, fun x H3 y => ?_⟩
    obtain ⟨F3, ff3, S3, k3, r3⟩ := yl x H3 y
    refine gD D _ _ F3 H3 z2 x d _ _ S3 r3 q2 (fun σ4 ρ4 q4 S4 u4 o4 => ?_)
    have ew : wipe σ4 (own.map (·.2)) = wipe σ (own.map (·.2)) := wipe_eq his u4.1 u4.2
    refine ⟨ew, ?_⟩
    refine tD D σ4 ρ4 F3 H3 z2 _ (fun _ _ _ => False) _ S4 q4 (fun bb ρ5 z5 b F5 H5 q5 S5 ff5 k5 o5 r5 => ?_) (fun e ρ' z' cls dd F' H' q => q.elim)
    obtain rfl : b = bb := r5
    have hx5 : H5 D = some (.lst xs) := k5.ke D _ (k3.ke D _ hx2 npD (nog (S2.hd D List.mem_cons_self).1)) npD (nog (S4.hd D List.mem_cons_self).1)
    cases b with
    | false =>
      rw [if_neg Bool.false_ne_true] at q5 ⊢
      refine ⟨ρ5, F5, z5, acc, xs, by rw [← ew]; exact S5.wipe, (ff2.trans ff3).trans ff5, (k2.trans k3).trans k5, oW ((o5.trans o4).trans o2), hx5, RpL.mono (ff3.trans ff5) rx2, q5⟩
    | true =>
      rw [if_pos rfl] at q5 ⊢
      refine eD D σ4 ρ5 F5 H5 z5 _ (fun _ _ _ => False) _ S5 q5 (fun yd ρ6 z6 yv F6 H6 q6 S6 ff6 k6 o6 r6 => ?_) (fun e ρ' z' cls dd F' H' q => q.elim)
      have hx6 : H6 D = some (.lst xs) := k6.ke D _ hx5 npD (nog (S5.hd D List.mem_cons_self).1)
      have rx6 : C.RL F6 xs acc := RpL.mono ((ff3.trans ff5).trans ff6) rx2
      refine ⟨xs, hx6, by rw [RpL.length rx6, sizeLine_eq]; exact q6.1, ρ6, F6, z6, acc ++ [yd], xs ++ [yv], ?_, ((ff2.trans ff3).trans ff5).trans ff6, ?_, oW (((o6.trans o5).trans o4).trans o2), upd_same, RpL.app1 rx6 r6, q6.2⟩
      · rw [← ew]
        exact (S6.hidUpd List.mem_cons_self h0D).wipe
      · exact (((k2.trans k3).trans k5).trans k6).updH hD
theorem xo_lc {mi : E (List D)} {g : Tg} {is : List Nat} {mt : E Bool} {me : E D} (kx : Kx X C W k) (hi : XI X C W tg iter mi) (ok : blkC X.N X.env.scope scope own = true)
    (hg : ∀ (s : Shared) (H : Hp) (Cc : Addr) (cl : List (Str × Addr)) (fp : List Addr) (D : Addr), Kx (Bk X scope s H Cc cl fp) (C.hide D) wN k → XG (Bk X scope s H Cc cl fp) (C.hide D) tg is g)
    (ht : ∀ (s : Shared) (H : Hp) (Cc : Addr) (cl : List (Str × Addr)) (fp : List Addr) (D : Addr), Kx (Bk X scope s H Cc cl fp) (C.hide D) wN k → XTs (Bk X scope s H Cc cl fp) (C.hide D) wN ifs mt)
    (he : ∀ (s : Shared) (H : Hp) (Cc : Addr) (cl : List (Str × Addr)) (fp : List Addr) (D : Addr), Kx (Bk X scope s H Cc cl fp) (C.hide D) wN k → XE (Bk X scope s H Cc cl fp) (C.hide D) wN elt me)
    (his : ∀ i ∈ is, i ∈ own.map (·.2)) (hs : ∀ x, foldedSetIterable iter X.env x = pure x := by intro _; rfl) :
    XO X C W (.ListComp elt [⟨tg, iter, ifs, 0⟩] scope pos) (eLc (own.map (·.2)) mi g mt me) := by
  obtain ⟨wi, gU, tU, eU, i1, gP, tP, eP, dd⟩ := lc_den (own := own) kx hi hg ht he his
  exact ⟨_, pe_lc (own := own) kx.calm kx.nd i1 (blkOk_by ok) gP tP eP hs, dd⟩
/-- name = [..], the name owns the list -/
theorem xs_setLcO (i : Nat) {y : Str} {py spos : Pos} {mi : E (List D)} {g : Tg} {is : List Nat} {mt : E Bool} {me : E D} (kx : Kx X C W k) (hy : X.N[i]? = some y) (hyl : X.env.scope.names.lookup y = some .local) (hi : XI X C W tg iter mi) (ok : blkC X.N X.env.scope scope own = true)
    (hg : ∀ (s : Shared) (H : Hp) (Cc : Addr) (cl : List (Str × Addr)) (fp : List Addr) (D : Addr), Kx (Bk X scope s H Cc cl fp) (C.hide D) wN k → XG (Bk X scope s H Cc cl fp) (C.hide D) tg is g)
    (ht : ∀ (s : Shared) (H : Hp) (Cc : Addr) (cl : List (Str × Addr)) (fp : List Addr) (D : Addr), Kx (Bk X scope s H Cc cl fp) (C.hide D) wN k → XTs (Bk X scope s H Cc cl fp) (C.hide D) wN ifs mt)
    (he : ∀ (s : Shared) (H : Hp) (Cc : Addr) (cl : List (Str × Addr)) (fp : List Addr) (D : Addr), Kx (Bk X scope s H Cc cl fp) (C.hide D) wN k → XE (Bk X scope s H Cc cl fp) (C.hide D) wN elt me)
    (his : ∀ i ∈ is, i ∈ own.map (·.2)) (hsw : swapsWith (.ListComp elt [⟨tg, iter, ifs, 0⟩] scope pos) (some (.Name y py)) spos.line X.env = pure true) (hs : ∀ x, foldedSetIterable iter X.env x = pure x := by intro _; rfl) :
    XS X C W (.Assign [.Name y py] (.ListComp elt [⟨tg, iter, ifs, 0⟩] scope pos) spos) (sAsgO (eLc (own.map (·.2)) mi g mt me) i) := by
  obtain ⟨wi, gU, tU, eU, i1, gP, tP, eP, dd⟩ := lc_den (own := own) kx hi hg ht he his
  refine ⟨_, ps_setLc (own := own) kx.calm kx.nd hy hyl hsw i1 (blkOk_by ok) gP tP eP hs, fun σ ρ F H z Qd Xd Dn S hm hq hx => ?_⟩
  refine dd σ ρ F H z _ Xd (fun x H1 => gName i x σ H1 Dn.nx) S hm (fun d ρ1 z1 v F1 H1 q1 S1 ff1 k1 o1 ⟨p, xs, e1, e2, e3, e4, e5, e6⟩ => ?_) (fun e ρ' z' cls dd F' H' q S' ff r => hx e ρ' z' cls dd σ F' H' q S' ff r)
  subst e1
  exact hq _ _ _ _ _ q1 ff1 _ (S1.setO i e2 e3 (S.h0None e4 e5) e5 e6 (S.notOwn e4 o1) (S.notHid e4))
end
end DL

namespace DL
open PySem PySem.Spec PyProof.Rows L2

/-! ## own exception classes -/
def oexB (K : PySem.W.Frag) (C : Addr) : Bool := match K.lookup C with
  | some ⟨.type "type", _, .cls cd, sl⟩ => (match cd.mro, sl.toList with
    | .ref C' :: bm, [_, _, _, _, some (.builtin n), _] => decide (C' = C) && (n == "ValueError.__new__" && (!cd.hasDel && (cd.hasDict && PySem.HandSPX.refsVE bm)))
    | _, _ => false)
  | _ => false
theorem oexB_ok {K : PySem.W.Frag} {C : Addr} (h : oexB K C = true) : ∃ nm q N bs bm sn sub ab col dd k0 k1 k2 k3 k5, K.lookup C = some (excClassObj nm q C N bs bm true sn sub ab col dd k0 k1 k2 k3 k5 "ValueError.__new__") ∧ PySem.HandSPX.refsVE bm = true := by
  unfold oexB at h
  split at h
  · rename_i dd cd sl ho
    split at h
    · rename_i C' bm k0 k1 k2 k3 n k5 hm hs
      simp only [Bool.and_eq_true, decide_eq_true_eq, beq_iff_eq, Bool.not_eq_true'] at h
      obtain ⟨h1, h2, h3, h4, h5⟩ := h
      obtain ⟨nm, bs, mro, ns, qn, hd, sn, sub, ab, col, del⟩ := cd
      obtain ⟨l⟩ := sl
      dsimp only at hm h3 h4 hs
      subst h1 h2 hm h3 h4 hs
      exact ⟨nm, qn, ns, bs, bm, sn, sub, ab, col, dd, k0, k1, k2, k3, k5, ho, h5⟩
    · cases h
  · cases h
def eqOB (a b : Option (Option Value)) : Bool := decide (a = b)
/-- the class at C, its __init__ at f -/
structure EC (K : PySem.W.Frag) (C f : Addr) : Prop where
  oex : OexC K C
  xf : XfC K C
  xc : ExcC K C
  ini : PySem.W.findIn K (.ref C) "__init__" = some (some (.ref f))
  tI : PySem.W.typeIn K (.ref f) = some (.type "function")
  kI : PySem.W.keepIn K (.ref f) = true
  nov : PySem.W.findIn K (.ref C) "value" = some none
  rd : PySem.W.readsIn K C (.type "type") = true
  ga : PySem.W.specialIn K (.ref C) "__getattribute__" = some (some (.builtin "type.__getattribute__"))
  at_ : PySem.W.findCls K (.ref C) (.type "type") "__init__" = some (.val (.ref f))
  ve : PySem.W.findCls K (.type "ValueError") (.type "type") "__init__" = some (.val (.builtin "ValueError.__init__"))
def cfB : Option PySem.W.CFound → Option PySem.W.CFound → Bool
  | some (.val a), some (.val b) => decide (a = b)
  | some (.get a b c d), some (.get a' b' c' d') => decide (a = a') && (decide (b = b') && (decide (c = c') && decide (d = d')))
  | _, _ => false
theorem cfB_ok {a b : Option PySem.W.CFound} (h : cfB a b = true) : a = b := by
  unfold cfB at h
  split at h
  · rw [of_decide_eq_true h]
  · simp only [Bool.and_eq_true, decide_eq_true_eq] at h
    obtain ⟨rfl, rfl, rfl, rfl⟩ := h
    rfl
  · cases h
def ecB (K : PySem.W.Frag) (C f : Addr) : Bool :=
  oexB K C && (eqOB (PySem.W.findIn K (.ref C) "__setattr__") (some (some (.builtin "object.__setattr__"))) && (decide (PySem.W.subIn K (.ref C) (.type "BaseException") = some true) && (decide (PySem.W.typeIn K (.ref C) = some (.type "type")) && (PySem.W.keepIn K (.ref C) &&
  (xfB K C && (eqOB (PySem.W.findIn K (.ref C) "__class__") (some (some (.builtin "object.__class__"))) && (eqOB (PySem.W.specialIn K (.builtin "object.__class__") "__get__") (some (some (.builtin "getset_descriptor.__get__"))) && (decide (PySem.W.takesIn K (.builtin "object.__class__") = some true) && (decide (PySem.W.mroIn K C (.type "object") = some true) &&
  (eqOB (PySem.W.findIn K (.ref C) "__init__") (some (some (.ref f))) && (decide (PySem.W.typeIn K (.ref f) = some (.type "function")) && (PySem.W.keepIn K (.ref f) && (eqOB (PySem.W.findIn K (.ref C) "value") (some none) && (PySem.W.readsIn K C (.type "type") &&
  (eqOB (PySem.W.specialIn K (.ref C) "__getattribute__") (some (some (.builtin "type.__getattribute__"))) && (cfB (PySem.W.findCls K (.ref C) (.type "type") "__init__") (some (.val (.ref f))) &&
  cfB (PySem.W.findCls K (.type "ValueError") (.type "type") "__init__") (some (.val (.builtin "ValueError.__init__")))))))))))))))))))
theorem ecB_ok {K : PySem.W.Frag} {C f : Addr} (h : ecB K C f = true) : EC K C f := by
  unfold ecB eqOB at h
  simp only [Bool.and_eq_true, decide_eq_true_eq] at h
  obtain ⟨h1, h2, h3, h4, h5, h6, h7, h8, h9, h10, h11, h12, h13, h14, h15, h16, h17, h18⟩ := h
  have xf := xfB_ok h6
  exact ⟨⟨oexB_ok h1, h2, h3, h4, h5⟩, xf, ⟨xf.ga, xf.gg, xf.exC, xf.hdC, h7, h8, h9, h10⟩, h11, h12, h13, h14, h15, h16, cfB_ok h17, cfB_ok h18⟩

/-- C.__init__(e, ..), C a class of one's own -/
theorem pe_cinit {X : Cx} {CX : CXT} {C f : Addr} {k : Nat} {fd : FuncData} {ps : List Str} {sp : Sp} {E : XK} {x : Str} {p1 p2 pos : Pos} {e : Expr} {es : List Expr} {t : TA} {pl : Sem Bool} (ec : EC X.K C f) (hg : Gl X x) (hm : X.mg x = some (.ref C))
    (F : FnOk X.prog X.w X.K X.mg X.base CX k f fd ps sp) (hr : Room k X.A) (hb : Binds X.K fd ps []) (hx : Passes CX X E) (ha : PA X (e :: es) t)
    (hc : eval (.Call (.Attribute (.Name x p1) "__init__" p2) (e :: es) [] pos) X.env = (do
      let ov ← eval (.Name x p1) X.env
      standAt p2.atName
      let (f, first) ← holding [ov] (getMethod ov "__init__" pl)
      callWith pos f first (backTo pos (starEach (e :: es) X.env)) (backToKw pos (keywordEach [] X.env))) := by rfl)
    (hdb : (x == ("__debug__" : Str)) = false := by decide)
    (he : starEach (e :: es) X.env = (false, eval e X.env) :: starEach es X.env := by rfl) (hpl : (backTo pos (starEach es X.env)).any (·.1) = false := by rfl) :
    PE X (.Call (.Attribute (.Name x p1) "__init__" p2) (e :: es) [] pos) (tCall sp [] E t) := by
  constructor
  intro pins s σ H Q I h
  refine PySem.W.methodCall_KW (ld_glob I hg hm ?_ hdb) hc
  refine PySem.W.method_cls I.kIn ec.ga ?_
  refine PySem.W.cls_value I.kIn ec.rd ec.at_ rfl ?_
  refine PySem.W.callWith_K (h₀ := X.base) I.ok.mod.kin ec.kI (thn (ha.run pos pins _ σ H _ (I.tok _) h) ?_) he hpl
  rintro us s1 ⟨vs, H1, I1, r, q⟩
  exact ⟨I1.kIn, run_fn F hr hb .nil hx I1 r q⟩

/-! ### the two __init__ -/
def spIK (K : PySem.W.Frag) : Sp := fun vs H Q _ => ∃ (a C : Addr) (v : V), vs = [.ref a, v] ∧ OexC K C ∧ PySem.W.findIn K (.ref C) "value" = some none ∧ H a = some (exo a C none) ∧
  ∀ d, H d = none → d ≠ a → Q .non (upd (upd H d (exd d [(("value" : Str), v)])) a (exo a C (some d)))
theorem spIK_len {K : PySem.W.Frag} : ∀ vs H Q E, spIK K vs H Q E → vs.length = 2 := fun vs H Q E h => by
  obtain ⟨a, C, v, rfl, _⟩ := h
  rfl
abbrev nSV : List Str := ["self", "value"]
/-! ## raise -/
section
variable {X : Cx} {C : CC} {W : WX} {e a b : Expr} {m ma mb : E D} {pos p p1 p2 : Pos} {k : Nat} {x : Str}
def sRaise (c : Str) (m : E D) : E Fl := eb m fun d ρ _ X z => X (c, d) ρ z
theorem xs_raise {Ca fI : Addr} {fd : FuncData} {j : Nat} (kx : Kx X C W (k + 1)) (ec : EC X.K Ca fI) (F : FnOk X.prog X.w X.K X.mg X.base (L2.CX X.prog X.w) j fI fd nSV (spIK X.K)) (hj : j ≤ k) (hb : Binds X.K fd nSV []) (hg : Gl X x) (hm : X.mg x = some (.ref Ca))
    (ha : XE X C W e m) (h1 : S1 X e := by rfl) (hdb : (x == ("__debug__" : Str)) = false := by decide) :
    XS X C W (.Raise (some (.Call (.Name x p) [e] [] p1)) none pos) (sRaise x m) := by
  obtain ⟨t, t1, t2⟩ := ha.ex
  refine ⟨_, ps_raise kx.calm kx.tk (pmk_oex (ds := []) (dvs := []) ec.oex ec.ini ec.tI (F.mono hj) kx.room hb .nil (fun pins σ H s e' s' I c => passes_call kx.tk (E := fun _ _ _ => False) (fun _ _ _ _ z => z.elim) pins σ H s e' s' I c) hg hm (pa1 t1 h1) hdb h1), fun σ ρ F0 H z Qd Xd Dn S hm' hq hx => ?_⟩
  refine t2 σ ρ F0 H z _ Xd (fun v H1 => ([v] : List V).length ≤ 1000 ∧ ∀ a, H1 a = none → spIK X.K (.ref a :: ([v] ++ [])) (upd H1 a (exo a Ca none))
    (fun v' H2 => v' = .non ∧ ∃ (d : Addr) (fs : List (Str × V)), H2 a = some (exo a Ca (some d)) ∧ H2 d = some (exd d fs) ∧ H1 d = none ∧ W (.ref Ca) (some d) σ (upd (del H2 a) d (.xd fs))) (fun _ _ _ => False)) S hm' (fun d ρ1 z1 v F1 H1 q1 S1 ff1 k1 o1 r1 => ?_) (fun e ρ' z' cls dd F' H' q S' ff r => hx e ρ' z' cls dd σ F' H' q S' ff r)
  refine ⟨by show 1 ≤ 1000; omega, fun a ha0 => ⟨a, Ca, v, rfl, ec.oex, ec.nov, upd_same, fun d' hd hda => ?_⟩⟩
  have hd1 : H1 d' = none := by rw [upd_ne hda] at hd; exact hd
  refine ⟨rfl, d', _, upd_same, by rw [upd_ne hda, upd_same], hd1, ?_⟩
  have eH : upd (del (upd (upd (upd H1 a (exo a Ca none)) d' (exd d' [(("value" : Str), v)])) a (exo a Ca (some d'))) a) d' (.xd [(("value" : Str), v)]) = upd H1 d' (.xd [(("value" : Str), v)]) := by
    funext b
    by_cases hb1 : b = d'
    · rw [hb1, upd_same, upd_same]
    · rw [upd_ne hb1, upd_ne hb1]
      by_cases hb2 : b = a
      · rw [hb2, del_same, ha0]
      · rw [del_ne hb2, upd_ne hb2, upd_ne hb1, upd_ne hb2]
  rw [eH]
  exact hx _ ρ1 z1 _ _ σ _ _ q1 (S1.newF hd1 ngX) (ff1.trans (Same.new (S1.free hd1))) ⟨Ca, d', v, by rw [← kx.hmg]; exact hm, rfl, rfl, upd_same, Rp.mono (Same.new (S1.free hd1)) r1⟩
end

/-! ## try .. except C as e -/
section
variable {X : Cx} {C : CC} {W : WX} {m ma mb : E D} {pos pos' p np p1 p2 : Pos} {k : Nat} {x n : Str} {cv : Value} {body suite : List Stmt} {b0 : Stmt} {i : Nat}
def dropX (i : Nat) (Q : Fl → Rho → Zs → Prop) : Fl → Rho → Zs → Prop := fun fl ρ z => match fl with
  | .ret d => Q (.ret d) ρ z
  | .retO d => Q (.retO d) ρ z
  | fl => Q fl (ρ.set i .no) z
/-- tbl: whether the clause takes an error of this class's name -/
def sTry (i : Nat) (mb : E Fl) (tbl : Str → Option Bool) (hM : Addr → Addr → Str → E Fl) : E Fl := fun ρ Q X z => mb ρ Q (fun e ρ' z' => ∃ b, tbl e.1 = some b ∧ if b = true then ∀ a x, hM a x e.1 (ρ'.set i (.fr (.exn a x e.1 e.2))) (dropX i Q) (fun _ _ _ => False) z' else X e ρ' z') z
theorem StOk.setNo {σ : L2.St} {ρ : Rho} {F H : Hp} {z : Zs} (S : StOk C σ ρ F H z) (i : Nat) (v : Option V) : StOk C (σ.set i v) (ρ.set i .no) F H z :=
  S.slots (by rw [List.length_set, List.length_set]; exact S.len) fun j s e => by
    rcases get_set e with ⟨_, h2, _⟩ | ⟨h1, h2⟩
    · exact .inl h2
    · exact .inr ⟨h2, List.getElem?_set_ne (Ne.symm h1)⟩
def eExv (i : Nat) (a x : Addr) : E D := fun ρ Q _ z => match ρ[i]? with
  | some (.fr (.exn a' x' _ d)) => (a' = a ∧ x' = x) ∧ Q d ρ z
  | _ => False
def rIsX (K : PySem.W.Frag) (A a dx : Addr) (cv : Value) : R2 := fun x y H Q => ∃ b, x = .ref a ∧ (∀ u, RelV y u → u = cv) ∧ (∃ fs, H dx = some (.xd fs)) ∧ PySem.W.kitOne K (.ref A) cv = some b ∧ Q (.bl b) H
def eIsX (i : Nat) (a x : Addr) (nm : Str) (tbl : Str → Option Bool) : E D := fun ρ Q _ z => match ρ[i]? with
  | some (.fr (.exn a' x' nm' _)) => (a' = a ∧ x' = x ∧ nm' = nm) ∧ ∃ b, tbl nm = some b ∧ Q (.bl b) ρ z
  | _ => False
end
end DL

namespace DL
open PySem PySem.Spec PyProof.Rows L2

/-! ## own lists that change -/
section
variable {C : CC} {σ : L2.St} {ρ : Rho} {F H : Hp} {z : Zs}
theorem StOk.mut (S : StOk C σ ρ F H z) {i : Nat} {ds es : List D} {a : Addr} {ys : List V} (e : ρ[i]? = some (.own ds)) (hs : σ[i]? = some (some (.ref a))) (r : C.RL F ys es) : StOk C σ (ρ.set i (.own es)) F (upd H a (.lst ys)) z := by
  obtain ⟨a', xs, e1, ha, hf, h0, np, r0, nh⟩ := S.env i _ _ hs e
  cases e1
  have hi : i < ρ.length := (List.getElem?_eq_some_iff.mp e).1
  refine ⟨Sub.updR S.sub hf, S.f0, S.h0.updH h0, S.nw, by rw [List.length_set]; exact S.len, fun j v s e1 e2 => ?_, fun j k x y b e1 e2 e3 e4 => ?_, fun q e => ?_, fun b hb => ?_, S.cs.grow (Same.refl F) (fun _ _ e => e) fun b k u e1 e2 => by rw [upd_ne (ne_of_none e1 hf)]; exact e2⟩
  · rcases get_set e2 with ⟨h1, h2, _⟩ | ⟨h1, h2⟩
    · subst h1 h2
      rw [hs] at e1
      cases e1
      exact ⟨a, ys, rfl, upd_same, hf, h0, np, r, nh⟩
    · have q := S.env j v s e1 h2
      cases s with
      | no => cases v <;> trivial
      | fr d =>
        cases v with
        | none => exact q.elim
        | some v => exact q
      | own fs =>
        cases v with
        | none => exact q.elim
        | some v =>
          obtain ⟨b, zs, rfl, hb, hfb, h0b, npb, rb, nhb⟩ := q
          have ne : b ≠ a := fun w => h1 (S.apart j i fs ds b h2 e e1 (by rw [hs, w]))
          exact ⟨b, zs, rfl, by rw [upd_ne ne]; exact hb, hfb, h0b, npb, rb, nhb⟩
  · have key : ∀ {j : Nat} {x : List D}, (ρ.set i (Sl.own es))[j]? = some (Sl.own x) → ∃ x', ρ[j]? = some (Sl.own x') := fun {j x} h => by
      rcases get_set h with ⟨h1, h2, _⟩ | ⟨h1, h2⟩
      · rw [h1]; exact ⟨_, e⟩
      · exact ⟨_, h2⟩
    obtain ⟨x', ex⟩ := key e1
    obtain ⟨y', ey⟩ := key e2
    exact S.apart j k x' y' b ex ey e3 e4
  · obtain ⟨h1, x, y, h2, rr⟩ := S.pz q e
    have ne : q ≠ a := fun w => np (by rw [← w]; exact e.symm)
    exact ⟨h1, x, y, by rw [upd_ne ne]; exact h2, rr⟩
  · obtain ⟨h1, ⟨u, h2⟩, h3⟩ := S.hd b hb
    have ne : b ≠ a := fun w => nh (by rw [← w]; exact hb)
    exact ⟨h1, ⟨u, by rw [upd_ne ne]; exact h2⟩, h3⟩
end
section
variable {X : Cx} {C : CC} {W : WX} {e a b : Expr} {m ma mb : E D} {pos p p1 p2 p3 : Pos} {k : Nat} {x : Str}
/-- x.append(e) -/
def sApp (i : Nat) (m : E D) : E Fl := fun ρ Q X z => match ρ[i]? with
  | some (.own _) => m ρ (fun y ρ' z' => match ρ'[i]? with
    | some (.own ds) => ds.length < 16777216 ∧ Q .nx (ρ'.set i (.own (ds ++ [y]))) z'
    | _ => False) X z
  | _ => False
theorem xs_app (i : Nat) (kx : Kx X C W k) (hv : PE X (.Name x p) (tVar i)) (ha : XE X C W e m) (h1 : S1 X e := by rfl)
    (hbase : attributeBase (.Name x p) "append" X.env (eval (.Name x p) X.env) = eval (.Name x p) X.env := by rfl)
    (hfew : ((backTo p2 (starEach (e :: []) X.env)).all (fun x => !x.1) && (backToKw p2 (keywordEach [] X.env)).all (fun x => x.1.isSome)
      && decide ((e :: ([] : List Expr)).length + ([] : List Keyword).length + (if ([] : List Keyword).isEmpty then 0 else 1) < 30)) = true := by rfl)
    (hline : (p1.endLine == p2.line) = true := by rfl) (hs : swapsWith (.Call (.Attribute (.Name x p) "append" p1) [e] [] p2) none p3.line X.env = pure false := by rfl) :
    XS X C W (.Expr (.Call (.Attribute (.Name x p) "append" p1) [e] [] p2) p3) (sApp i m) := by
  obtain ⟨t, t1, t2⟩ := ha.ex
  refine ⟨_, ps_expr (pe_bm PySem.F.plainAttrs_list F.slot_list_append F.type_list_append mt_append hv (pa1 t1 h1) hbase hfew hline h1 rfl) hs, fun σ ρ F H z Qd Xd Dn S hm hq hx => ?_⟩
  unfold sApp at hm
  cases e0 : ρ[i]? with
  | none => rw [e0] at hm; exact hm.elim
  | some s =>
    rw [e0] at hm
    obtain ⟨v, e1, r⟩ := st_get S e0
    cases s with
    | no => exact hm.elim
    | fr d => exact hm.elim
    | own ds0 =>
      cases v with
      | none => exact r.elim
      | some v =>
        obtain ⟨l, xs, rfl, ha0, hf, h0, np, rr, nh⟩ := r
        refine ⟨_, e1, .inl ⟨rfl, xs, .inl (.inl ha0)⟩, ?_⟩
        refine t2 σ ρ F H z _ Xd (fun y H1 => rAppend (.ref l) [y] H1 fun _ H2 => Dn.nx σ H2) S hm (fun d ρ1 z1 v F1 H1 q1 S1 ff1 k1 o1 r1 => ?_) (fun e ρ' z' cls dd F' H' q S' ff r => hx e ρ' z' cls dd σ F' H' q S' ff r)
        cases e2 : ρ1[i]? with
        | none => rw [e2] at q1; exact q1.elim
        | some s =>
          rw [e2] at q1
          cases s with
          | no => exact q1.elim
          | fr d => exact q1.elim
          | own ds =>
            obtain ⟨l', ys, el, hl, _, _, _, r2, _⟩ := S1.env i _ _ e1 e2
            cases el
            refine ⟨l, ys, v, rfl, rfl, hl, by rw [RpL.length r2, sizeLine_eq]; exact q1.1, ?_⟩
            exact hq .nx _ z1 F1 _ q1.2 ff1 σ (S1.mut e2 e1 (RpL.app1 r2 r1))
/-- x.reverse(), x.clear() -/
def sMt0 (i : Nat) (f : List D → List D) : E Fl := fun ρ Q _ z => match ρ[i]? with
  | some (.own ds) => Q .nx (ρ.set i (.own (f ds))) z
  | _ => False
/-- x[e] = v -/
def sSetI (i : Nat) (mv mk : E D) : E Fl := eb mv fun y ρ Q X z => match ρ[i]? with
  | some (.own _) => mk ρ (fun d ρ' z' => match ρ'[i]?, d with
    | some (.own ds), .int k => ∃ j, ixN ds.length k = some j ∧ Q .nx (ρ'.set i (.own (ds.set j y))) z'
    | _, _ => False) X z
  | _ => False
theorem StOk.pzSet {σ : L2.St} {ρ : Rho} {F H : Hp} {z : Zs} {q : Addr} {x' y' z' : Int} (S : StOk C σ ρ F H z) (hq : C.pa = some q) (h0 : 0 ≤ x') (h1 : 0 ≤ y') (h2 : y' < 10 ^ 24 + 7) (h3 : 0 ≤ z') : StOk C σ ρ F (upd H q (.lst [.int x', .int y', .int z'])) { z with n := z' } := by
  have hf : F q = none := (S.pz q hq).1
  have hk : Keep C.pa C.F0 F C.H0 (upd H q (.lst [.int x', .int y', .int z'])) := by
    refine ⟨fun b u e n g => ?_, S.h0.gn, fun b e => ?_⟩
    · rw [upd_ne (fun w => n (by rw [w, hq]))]
      exact S.h0.ke b u e n g
    · by_cases w : b = q
      · rw [w, upd_same]; simp
      · rw [upd_ne w]; exact S.h0.dm b e
  refine ⟨Sub.updR S.sub hf, S.f0, hk, S.nw, S.len, fun i v s e1 e2 => ?_, S.apart, fun r e => ?_, fun b hb => ?_, S.cs.grow (Same.refl F) (fun _ _ e => e) fun a k u e1 e2 => by rw [upd_ne (ne_of_none e1 hf)]; exact e2⟩
  · have r := S.env i v s e1 e2
    cases s with
    | no => cases v <;> trivial
    | fr d =>
      cases v with
      | none => exact r.elim
      | some v => exact r
    | own fs =>
      cases v with
      | none => exact r.elim
      | some v =>
        obtain ⟨b, zs, rfl, hb, hfb, h0b, npb, rb, nhb⟩ := r
        have ne : b ≠ q := fun w => npb (by rw [w, hq])
        exact ⟨b, zs, rfl, by rw [upd_ne ne]; exact hb, hfb, h0b, npb, rb, nhb⟩
  · have er : r = q := by rw [hq] at e; exact (Option.some.inj e).symm
    subst er
    exact ⟨hf, x', y', upd_same, h0, h1, h2, h3⟩
  · obtain ⟨a1, ⟨u, a2⟩, a3⟩ := S.hd b hb
    have ne : b ≠ q := fun w => a3 (by rw [w, hq])
    exact ⟨a1, ⟨u, by rw [upd_ne ne]; exact a2⟩, a3⟩
def ePz (i k : Nat) : E D := fun ρ Q _ z => match ρ[i]? with
  | some (.fr .cel) => (match k with
    | 0 => ∀ x : Int, 0 ≤ x → Q (.int x) ρ z
    | 1 => ∀ y : Int, 0 ≤ y → y < 10 ^ 24 + 7 → Q (.int y) ρ z
    | 2 => 0 ≤ z.n → Q (.int z.n) ρ z
    | _ => False)
  | _ => False
theorem xe_pz (i k : Nat) {j : Nat} {pc : Pos} (hK : X.K = C.K) (hv : PE X (.Name x p) (tVar i)) (hs : PlainIx (.Constant (.int (k : Nat)) j pc)) : XE X C W (.Subscript (.Name x p) (.Constant (.int (k : Nat)) j pc) pos) (ePz i k) := by
  refine ⟨_, pe_ix ix_seq hv pe_int hs, fun σ ρ F H z Qd Xd Q S hm hq hx => ?_⟩
  unfold ePz at hm
  cases e0 : ρ[i]? with
  | none => rw [e0] at hm; exact hm.elim
  | some s =>
    rw [e0] at hm
    obtain ⟨w, e1, r⟩ := st_get S e0
    cases s with
    | no => exact hm.elim
    | own ds0 => exact hm.elim
    | fr d =>
      cases w with
      | none => exact r.elim
      | some w =>
        cases d with
        | cel =>
          have r' : C.R F w .cel := r
          cases r' with
          | @cel q eq =>
            obtain ⟨hf, x', y', hH, g1, g2, g3, g4⟩ := S.pz q eq
            refine ⟨_, e1, ?_⟩
            match k with
            | 0 => exact .inl ⟨q, [.int x', .int y', .int z.n], ((0 : Nat) : Int), .int x', rfl, rfl, .inl (.inl hH), rfl, S.same (R := kR C) (hm x' g1) (.int _) hq⟩
            | 1 => exact .inl ⟨q, [.int x', .int y', .int z.n], ((1 : Nat) : Int), .int y', rfl, rfl, .inl (.inl hH), rfl, S.same (R := kR C) (hm y' g2 g3) (.int _) hq⟩
            | 2 => exact .inl ⟨q, [.int x', .int y', .int z.n], ((2 : Nat) : Int), .int z.n, rfl, rfl, .inl (.inl hH), rfl, S.same (R := kR C) (hm g4) (.int _) hq⟩
            | k + 3 => exact hm.elim
        | _ => exact hm.elim
def sPz (i k : Nat) (m : E D) : E Fl := fun ρ Q X z => match ρ[i]? with
  | some (.fr .cel) => m ρ (fun d ρ' z' => match d with
    | .int v => ρ'[i]? = some (.fr .cel) ∧ (match k with
      | 0 => 0 ≤ v ∧ Q .nx ρ' z'
      | 2 => 0 ≤ v ∧ Q .nx ρ' { z' with n := v }
      | _ => False)
    | _ => False) X z
  | _ => False
theorem xs_pz (i k : Nat) {j : Nat} {pc : Pos} {mv : E D} {v : Expr} (hv : PE X (.Name x p) (tVar i)) (ha : XE X C W v mv) (hs : swapsWithSole [.Subscript (.Name x p) (.Constant (.int (k : Nat)) j pc) p1] v pos.line X.env = pure false := by rfl) (hw : swappedStores [.Subscript (.Name x p) (.Constant (.int (k : Nat)) j pc) p1] v X.env = pure none := by rfl)
    (hset : ∀ w, assign (.Subscript (.Name x p) (.Constant (.int (k : Nat)) j pc) p1) X.env w = (do
      let ov ← holding [w] (eval (.Name x p) X.env)
      let iv ← holding [w, ov] (eval (.Constant (.int (k : Nat)) j pc) X.env)
      standAt p1
      holding [w, ov, iv] (setItem ov iv w)
      release [w, ov, iv] []) := by intro _; rfl)
    (h1 : (assignEach [.Subscript (.Name x p) (.Constant (.int (k : Nat)) j pc) p1] X.env).map (·.2) = [assign (.Subscript (.Name x p) (.Constant (.int (k : Nat)) j pc) p1) X.env] := by rfl) :
    XS X C W (.Assign [.Subscript (.Name x p) (.Constant (.int (k : Nat)) j pc) p1] v pos) (sPz i k mv) := by
  obtain ⟨t, t1, t2⟩ := ha.ex
  refine ⟨_, ps_asg t1 (pg_sub hv pe_int set_list hset) hs hw h1, fun σ ρ F H z Qd Xd Dn S hm hq hx => ?_⟩
  unfold sPz at hm
  cases e0 : ρ[i]? with
  | none => rw [e0] at hm; exact hm.elim
  | some s =>
    rw [e0] at hm
    obtain ⟨w, e1, r⟩ := st_get S e0
    cases s with
    | no => exact hm.elim
    | own ds0 => exact hm.elim
    | fr d =>
      cases w with
      | none => exact r.elim
      | some w =>
        cases d with
        | cel =>
          have r' : C.R F w .cel := r
          cases r' with
          | @cel q eq =>
            refine t2 σ ρ F H z _ Xd (fun y H1 => gSub (tVar i) (tC (.int (k : Nat))) rSetL y σ H1 Dn.nx) S hm (fun d ρ1 z1 v F1 H1 q1 S1 ff1 k1 o1 r1 => ?_) (fun e ρ' z' cls dd F' H' q S' ff r => hx e ρ' z' cls dd σ F' H' q S' ff r)
            cases d with
            | int n =>
              obtain ⟨hi, q1⟩ := q1
              cases r1
              obtain ⟨hf, x', y', hH, g1, g2, g3, g4⟩ := S1.pz q eq
              refine ⟨_, e1, ?_⟩
              match k with
              | 0 => exact ⟨q, _, ((0 : Nat) : Int), 0, rfl, rfl, hH, rfl, hq .nx _ z1 F1 _ q1.2 ff1 σ (S1.pzSet eq q1.1 g2 g3 g4)⟩
              | 2 => exact ⟨q, _, ((2 : Nat) : Int), 2, rfl, rfl, hH, rfl, hq .nx _ _ F1 _ q1.2 ff1 σ (S1.pzSet eq g1 g2 g3 q1.1)⟩
              | 1 => exact q1.elim
              | k + 3 => exact q1.elim
            | _ => exact q1.elim
        | _ => exact hm.elim

/-! ## f(purse(..)): a def on a purse of its own -/
theorem StOk.growX {σ : L2.St} {ρ : Rho} {F F' H H' : Hp} {z : Zs} {q : Addr} (S : StOk C σ ρ F H z) (hp : C.pa = none) (hq0 : C.H0 q = none) (no : ∀ (i : Nat) ys, ρ[i]? = some (.own ys) → σ[i]? ≠ some (some (.ref q))) (nh : q ∉ C.hid)
    (ff : Same F F') (sub : Sub F' H') (hk : Keep (some q) F F' H H') (nw : ∀ b, F' b ≠ none → F b = none → H b = none) (hz : z.cs = []) : StOk C σ ρ F H' z := by
  have nE : ∀ {b : Addr}, b ≠ q → some b ≠ some q := fun {b} n e => n (Option.some.inj e)
  have ng : ∀ b k, F b ≠ some (gh k) := fun b k e => by
    have := S.cs.lt b k e
    rw [hz] at this
    exact absurd this (Nat.not_lt_zero _)
  have hk0 : Keep C.pa C.F0 F C.H0 H' := by
    refine ⟨fun b u e n g => ?_, S.h0.gn, fun b e => hk.dm b (S.h0.dm b e)⟩
    exact hk.ke b u (S.h0.ke b u e n g) (nE (ne_of_none e hq0)) (ng b)
  refine ⟨ff.subT sub, S.f0, hk0, S.nw, S.len, fun i v s e1 e2 => ?_, S.apart, fun r e => ?_, fun b hb => ?_, ?_⟩
  · have h := S.env i v s e1 e2
    cases s with
    | no => cases v <;> trivial
    | fr d =>
      cases v with
      | none => exact h.elim
      | some v => exact h
    | own ds =>
      cases v with
      | none => exact h.elim
      | some v =>
        obtain ⟨a, xs, rfl, ha, hf, h0, np, r, nh'⟩ := h
        have ne : a ≠ q := fun w => no i ds e2 (by rw [e1, w])
        exact ⟨a, xs, rfl, hk.ke a _ ha (nE ne) (nog hf), hf, h0, np, r, nh'⟩
  · rw [hp] at e; cases e
  · obtain ⟨h1, ⟨o, h2⟩, h3⟩ := S.hd b hb
    have ne : b ≠ q := fun w => nh (by rw [← w]; exact hb)
    exact ⟨h1, ⟨o, hk.ke b o h2 (nE ne) (nog h1)⟩, h3⟩
  · refine ⟨fun k c e => ?_, fun a k e => absurd e (ng a k), fun a b k e => absurd e (ng a k)⟩
    rw [hz] at e
    simp at e
def fRight (m : List D → E0 D) : List D → E D
  | [.int x, .int y, .int 0] => fun ρ Q _ z => (0 ≤ x ∧ 0 ≤ y ∧ y < 10 ^ 24 + 7 ∧ z.cs = []) ∧ m [.cel] (fun d _ => ∃ b, d = .bl b ∧ Q (.bl b) ρ z) (fun _ _ => False) {}
  | _ => eStuck
theorem xe_right {f : Addr} {fd : FuncData} {ps : List Str} {j : Nat} {m : List D → E0 D} {mo : E (List D)} (hp : C.pa = none) (G : GF X x j f fd ps (spF X.K X.mg 1 m)) (kx : Kx X C W k) (hj : j ≤ k) (hb : BG X.K fd ps [] 1 gL gL) (hg : Gl X x)
    (ha : XO X C W e mo) (h1 : S1 X e := by rfl) (hdb : (x == ("__debug__" : Str)) = false := by decide) (hpl : (backTo pos (starEach [] X.env)).any (·.1) = false := by rfl) :
    XE X C W (.Call (.Name x p) [e] [] pos) (eb mo (fRight m)) := by
  obtain ⟨t, t1, t2⟩ := ha.ex
  refine ⟨_, pe_cg G kx hj hb hg (pa1 t1 h1) hdb h1 hpl, fun σ ρ F H z Qd Xd Q S hm hq hx => ?_⟩
  refine t2 σ ρ F H z _ Xd (fun v H1 => ([v] : List V).length = 1 ∧ ([] : List V).length = 0 ∧ spF X.K X.mg 1 m (gL [v] []) H1 Q (WE W σ)) S hm (fun ds ρ1 z1 v F1 H1 q1 S1 ff1 k1 o1 ⟨q, xs, e1, e2, e3, e4, e5, e6⟩ => ?_) hx
  subst e1
  unfold fRight at q1
  split at q1
  · rename_i x y _
    obtain ⟨⟨g1, g2, g3, g4⟩, q1⟩ := q1
    cases e6 with | cons r1 e6 =>
    cases e6 with | cons r2 e6 =>
    cases e6 with | cons r3 e6 =>
    cases e6
    cases r1
    cases r2
    cases r3
    have ng : ∀ b k, F1 b ≠ some (gh k) := fun b k e => by
      have := S1.cs.lt b k e
      rw [g4] at this
      exact absurd this (Nat.not_lt_zero _)
    refine ⟨rfl, rfl, rfl, some q, F1, {}, [.cel], _, _, S1.sub, ⟨fun r er => ?_, fun k c e => by simp at e, fun a k e => absurd e (ng a k), fun a b k e => absurd e (ng a k)⟩, .cons (.cel rfl) .nil, q1, fun d z' v F' H' q2 a r => ?_, fun e z' cls dd F' H' q2 => q2.elim⟩
    · cases er
      exact ⟨e3, x, y, e2, g1, g2, g3, Int.le_refl 0⟩
    · obtain ⟨b, rfl, q2⟩ := q2
      cases r
      have S2 : StOk C σ ρ1 F1 H' z1 := S1.growX (q := q) hp (S.h0None e4 (by rw [hp]; simp)) (S.notOwn e4 o1) (S.notHid e4) a.1 a.2.1 a.2.2.1 a.2.2.2.1 g4
      refine hq _ ρ1 z1 _ F1 H' q2 S2 ff1 ⟨fun b u eb n g => ?_, k1.gn, fun b e => a.2.2.1.dm b (k1.dm b e)⟩ o1 (.bl b)
      exact a.2.2.1.ke b u (k1.ke b u eb n g) (fun w => by rw [Option.some.inj w, e4] at eb; cases eb) (ng b)
  · exact False.elim q1
end
end DL

namespace DL
open PySem PySem.Spec PyProof.Rows L2

/-! ## the law's end, for defs that ask that no repr is under way -/
/-- a def that no purse reaches -/
def spL (K : PySem.W.Frag) (mg : Str → Option Value) (n : Nat) (m : List D → E0 D) : Sp := fun vs H Q E => vs.length = n ∧ ∃ (F : Hp) (z : Zs) (ds : List D) (Qd : D → Zs → Prop) (Xd : Er → Zs → Prop),
  Sub F H ∧ CsOk K mg none F H z.cs ∧ RpL K mg none F vs ds ∧ m ds Qd Xd z ∧ (∀ d z' v F' H', Qd d z' → Aft K mg none F H F' H' z' → Rp K mg none F' v d → Q v H') ∧
  (∀ e z' cls dd F' H', Xd e z' → Aft K mg none F H F' H' z' → ExR ⟨K, mg, none, F, H, []⟩ F' H' e cls dd → E cls dd H')
theorem fnL_of {P : Program} {w : World} {K : PySem.W.Frag} {mg : Str → Option Value} {base : Heap} {k : Nat} {f : Addr} {x qual : Str} {params : Arguments} {body : List Stmt} {scope : Scope} {dvs : List V} {kws : List (Str × V)} {fd : FuncData} {N ps : List Str} {st : E Fl}
    (F : FunD K x qual params body scope dvs kws f fd) (S : FnScope N ps scope)
    (hbody : ∀ (cdv : Value) (A : Around) (outer : List PySem.Env) (s : Shared) (H : Hp) (E : XK) (F0 : Hp), Kx (cxG P w K mg base N qual scope f cdv A outer s H E) ⟨K, mg, none, F0, H, []⟩ (wE E) k →
      XSs (cxG P w K mg base N qual scope f cdv A outer s H E) ⟨K, mg, none, F0, H, []⟩ (wE E) body st) : FnG P w K mg base (k + 1) f fd ps (spL K mg ps.length (dF N.length st)) := by
  refine fnG_of F S (fun vs H Q E h => h.1) fun cdv A outer s H vs Q E hg hr h => ?_
  obtain ⟨hl, F0, z, ds, Qd, Xd, sub, cs, r, hm, hq, hx⟩ := h
  obtain ⟨t, h1, h2⟩ := (hbody cdv A outer s H E F0 (kx_of S hg hr)).ex
  have hn : vs.length ≤ N.length := by have := congrArg List.length S.pre; rw [List.length_take] at this; omega
  have pz : PC K mg none F0 H z := ⟨(fun p e => by cases e), cs⟩
  refine ⟨t, h1, h2 (L2.start N vs) (rho0 N.length ds) F0 H z (outF Qd) (fun e _ z => Xd e z) _ (start_ok sub pz r hn) hm (fun fl ρ' z' F' H' q ff => ?_) fun e ρ' z' cls dd σ' F' H' q S' ff r' => hx e z' cls dd F' H' q S'.aft r'⟩
  cases fl with
  | nx => exact fun σ S' => hq _ _ _ _ _ q S'.aft .non
  | ret d => exact fun σ v S' rv => hq _ _ _ _ _ q S'.aft rv
  | retO d =>
    intro σ v S' ⟨a, xs, e1, e2, e3, e4, e5, e6, _⟩
    subst e1
    exact hq _ _ _ _ _ q (S'.frzAny e2 e3 e4 e5) (.lst e5 upd_same (RpL.mono (Same.new e3) e6))
  | bk => exact False.elim q
  | ct => exact False.elim q
section
variable {P : Program} {w : World} {K : PySem.W.Frag} {mg mb : Str → Option Value} {k : Nat} {fa a : Addr} {fd : FuncData} {x : Str} {s1 : Shared} {vs : List Value} {ns : List Int} {m : List D → E0 D}
/-- the law's promise from its mirror -/
theorem sp_of {H : Hp} (hS : SqL K H a (ns.map V.int)) (hn : ∀ b k, H b ≠ some (gh k)) (hm : m [.scr ns] (fun d _ => d = .bl true) (fun _ _ => False) {}) : spL K mg 1 m [.ref a] H (fun v _ => v = .bl true) (fun _ _ _ => False) :=
  ⟨rfl, H, {}, [.scr ns], _, _, fun _ _ e _ => e, ⟨fun k c e => by simp at e, fun a k e => absurd e (hn a k), fun a b k e => absurd e (hn a k)⟩, .cons (.scr hS) .nil, hm, fun d z' v F' H' q a r => by subst q; cases r; rfl, fun e z' cls dd F' H' q _ _ => q⟩
theorem law_end (KX : K.In s1.heap) (hns : s1.heap.Ns mainGlobals mg) (hb : s1.heap.Ns builtinsNs mb) (hbb : ∀ x : Str, x ≠ "__name__" → mb x = bootBuiltins x) (hlim : s1.heap.NoLimit) (hg : s1.gens = #[])
    (ha : s1.heap.get? a = some { cls := .type "list", data := .seq vs.toArray }) (hi : IntsAre vs ns) (hl : ns.length ≤ sizeLine) (hr : Room k callerA) (gu : callerA.guards = some [])
    (F : ∀ base : Heap, K.In base → base.Ns mainGlobals mg → FnG P w K mg base k fa fd [x] (spL K mg 1 m)) (hbind : ∀ (s : Shared) (u : Value), BindsTo s fd ⟨[u], []⟩ [(x, u)])
    (hm : m [.scr ns] (fun d _ => d = .bl true) (fun _ _ => False) {}) :
    codeAny (model P w) callerA (.call (.ref fa) ⟨[.ref a], []⟩) (fun r s' => r = .ok (.ret (.bool true)) ∧ OldK s1.heap s'.heap ∧ s'.os = s1.os ∧ AllBare s'.gens) s1 := by
  have rv := vals_ints hi
  have lv := hi.length
  let so : Obj := { cls := .type "list", data := .seq vs.toArray }
  -- H tracks the script at most
  have main : ∀ H : Hp, (∀ b u, H b = some u → b = a ∧ u = .frz so (.lst (ns.map V.int)) ∧ K.lookup a = none) → SqL K H a (ns.map V.int) → HOk P w H s1.heap →
      codeAny (model P w) callerA (.call (.ref fa) ⟨[.ref a], []⟩) (fun r s' => r = .ok (.ret (.bool true)) ∧ OldK s1.heap s'.heap ∧ s'.os = s1.os ∧ AllBare s'.gens) s1 := by
    intro H hH hS hok
    have hd : ∀ {b : Addr} {o : Obj}, s1.heap.get? b = some o → (∀ h : b = a, False) ∨ H b = none → (hidT s1.heap H).get? b = some o := fun {b o} e h => by
      refine hidT_get e ?_
      rcases h with h | h
      · cases q : H b with
        | none => rfl
        | some u => exact (h (hH b u q).1).elim
      · exact h
    have nsB : ∀ {b : Addr} {f : Str → Option Value}, s1.heap.Ns b f → (hidT s1.heap H).Ns b f := fun {b f} n => by
      obtain ⟨o, es, ep, e, d, r⟩ := n
      refine ⟨o, es, ep, hd e (.inl fun h => ?_), d, r⟩
      subst h
      rw [ha] at e
      cases e
      cases (show Data.seq vs.toArray _ = Data.dict es ep from d)
    have KB : K.In (hidT s1.heap H) := fun b o e => hd (KX b o e) (.inr (by
      cases q : H b with
      | none => rfl
      | some u =>
        obtain ⟨h1, _, h3⟩ := hH b u q
        rw [h1, h3] at e
        cases e))
    obtain ⟨mc, l1, l2⟩ := hlim
    have M : Mod K mg (hidT s1.heap H) := ⟨KB, nsB hns, ⟨mb, nsB hb, hbb⟩, ⟨mc, nsB l1, l2⟩⟩
    have e0 : Env0 P w K mg (hidT s1.heap H) callerA [] s1 H := ⟨rfl, M, fun b o e => of_hidT e, Nat.le_of_eq (hidT_size _ _), trivial, (fun b hb => by cases hb), hok, .of_eq hg⟩
    have run := (F _ KB (nsB hns)).run callerA [] s1 H ⟨[.ref a], []⟩ [.ref a] [.ref a] _ _ gu hr e0 (hbind s1 (.ref a)) (.cons rfl .nil) (sp_of hS (fun b k e => by have := (hH b _ e).2.1; cases this) hm)
    refine codeAny_mono run ?_
    intro r s' h
    match r with
    | .error e =>
      obtain ⟨_, _, _, _, _, _, _, _, _, _, _, _, hw⟩ := h
      exact False.elim hw
    | .ok .next => exact h.elim
    | .ok .brk => exact h.elim
    | .ok .cont => exact h.elim
    | .ok (.ret u) =>
      obtain ⟨v, H', os, bare, un, hok', r', q⟩ := h
      obtain rfl : v = .bl true := q
      obtain rfl : u = Value.bool true := r'
      refine ⟨rfl, OldK.of_keep fun b o e => ?_, os, bare⟩
      cases q : H b with
      | none => exact un.keep b o e q (fun z => by cases z) (fun z => by cases z)
      | some u =>
        obtain ⟨_, rfl, _⟩ := hH b u q
        have e1 := (hok b _ q).1
        have e2 := (hok' b _ (un.frzs b so _ q)).1
        rw [e] at e1
        cases e1
        exact e2
  cases hk : K.lookup a with
  | some o =>
    have e := KX a o hk
    rw [ha] at e
    cases e
    exact main (fun _ => none) (fun b u z => by cases z) (.inr ⟨_, vs.toArray, _, hk, rfl, rfl, rfl, by rw [List.size_toArray, lv]; exact hl, by simpa using rv⟩) (fun b u z => by cases z)
  | none =>
    let H : Hp := fun b => if b = a then some (.frz so (.lst (ns.map V.int))) else none
    have hH : ∀ b u, H b = some u → b = a ∧ u = .frz so (.lst (ns.map V.int)) := fun b u z => by
      by_cases q : b = a
      · exact ⟨q, (Option.some.inj ((if_pos q).symm.trans z)).symm⟩
      · cases (if_neg q).symm.trans z
    refine main H (fun b u z => ⟨(hH b u z).1, (hH b u z).2, hk⟩) (.inl (.inr ⟨so, if_pos rfl⟩)) fun b u z => ?_
    obtain ⟨rfl, rfl⟩ := hH b u z
    exact ⟨ha, by rw [List.length_map]; exact hl, vs, _, rv, ha⟩
end
/-- the goal that the head leaves -/
theorem walk_end {l : PySem.W.OpenLaw} {n k : Nat} {q : Program} {loose : List Str} {XP : (Str → Option Value) → Heap → Prop} {YP : World → Heap → Prop} {d : DefRec} {x : Str} {m : List D → E0 D}
    (hn : l.most = some n) (hn2 : n ≤ sizeLine) (hdf : d.params.defaults = []) (hr : Room k callerA) (gu : callerA.guards = some [])
    (F : ∀ (w : World) (mg : Str → Option Value) (fa : Addr) (h : Heap), YP w h → h.Ns mainGlobals mg → mg d.name = some (.ref fa) →
      ∃ (K : PySem.W.Frag) (fd : FuncData), K.In h ∧ (∀ (s : Shared) (u : Value), BindsTo s fd ⟨[u], []⟩ [(x, u)]) ∧
        ∀ base : Heap, K.In base → base.Ns mainGlobals mg → FnG l.prog w K mg base k fa fd [x] (spL K mg 1 m))
    (hm : ∀ ns : List Int, ns.length ≤ n → m [.scr ns] (fun d _ => d = .bl true) (fun _ _ => False) {}) :
    PySem.W.WalkO q loose XP YP l.row.toRowW d [] (fun f vs => PySem.call f vs) := by
  apply Att.attach_call hn hdf
  intro w s0 s1 mg mb fa o pm cd doc a vs ns G Y ho hd hcd hmg hobj hints hlen hg
  obtain ⟨K, fd, KX, hb, hF⟩ := F w mg fa _ Y G.T.g hmg
  exact law_end KX G.T.g G.T.b G.T.builtins G.T.nolimit hg hobj hints (Nat.le_trans hlen hn2) hr gu hF hb (hm ns hlen)

/-! ## names for what the printed mirrors hold -/
abbrev bO (f : P2) (ma mb : E D) : E D := eb ma fun x => eb mb fun y => eP (f x y)
abbrev bC (ma mb : E D) : E (List D) := eb ma fun x => eb mb fun y => eP (dCat x y)
abbrev uO (f : P1) (ma : E D) : E D := eb ma fun x => eP (f x)
abbrev aN : E (List D) := ep []
abbrev aC (m : E D) (ms : E (List D)) : E (List D) := eb m fun d => eb ms fun ds => ep (d :: ds)
abbrev tV (m : E D) : E Bool := eb m fun x => eP (dTru x)
abbrev tN (m : E Bool) : E Bool := eb m fun t => ep (!t)
abbrev oP (m : E (List D)) : E D := eb m fun ds => ep (.lst ds)
/-- values put in the parameters' order -/
def pick {α : Type} (ix : List Nat) (l : List α) : List α := ix.filterMap fun i => l[i]?
abbrev gP {α : Type} (ix : List Nat) : List α → List α → List α := fun a b => pick ix (a ++ b)
/-- a def of the module, as callers use it -/
structure GFn (P : Program) (w : World) (K : PySem.W.Frag) (mg : Str → Option Value) (base : Heap) (x : Str) (j : Nat) (f : Addr) (fd : FuncData) (ps : List Str) (sp : Sp) : Prop where
  fn : FnG P w K mg base j f fd ps sp
  mg : mg x = some (.ref f)
  kp : PySem.W.keepIn K (.ref f) = true
  bg : BG K fd ps [] ps.length gL gL
theorem GFn.g {X : Cx} {x : Str} {j : Nat} {f : Addr} {fd : FuncData} {ps : List Str} {sp : Sp} (h : GFn X.prog X.w X.K X.mg X.base x j f fd ps sp) : GF X x j f fd ps sp := ⟨h.fn, h.mg, h.kp⟩

/-! ## the head's facts, and a Bool of one's own -/
abbrev AlE : Type := He.AlD × Bool
def obsE (n : Nat) (fa : List He.Fa) (fn : List He.DefD) (ex : PySem.W.Frag → Bool) (g : Addr → Option Obj) : AlE := (He.obsD fa fn (He.frG g (PySem.cStatics :: He.asD g n)), ex (He.frG g (PySem.cStatics :: He.asD g n)))
def SaysE (fa : List He.Fa) (fn : List He.DefD) (ex : PySem.W.Frag → Bool) (K : PySem.W.Frag) : Prop := He.SaysD fa fn K ∧ ex K = true
def hookE (n : Nat) (fa : List He.Fa) (fn : List He.DefD) (ex : PySem.W.Frag → Bool) : PySem.W.Hook where
  α := AlE
  obs := fun s => obsE n fa fn ex s.heap.get?
  val := fun _ => (He.valD fn, true)
  says := fun _ h => ∃ K : PySem.W.Frag, K.In h ∧ SaysE fa fn ex K
  of := fun _ _ e => ⟨_, He.frG_in, congrArg (fun z : AlE => z.1) e, congrArg (fun z : AlE => z.2) e⟩
  keeps := fun _ _ _ ⟨K, hK, c⟩ k => ⟨K, PySem.W.Frag.In.keeps hK k, c⟩
end DL

namespace DL
open PySem PySem.Spec PyProof.Rows L2

/-! ## running a mirror: one step a lemma -/
section
variable {α β : Type} (ρ : Rho) (Qd : D → Rho → Zs → Prop) (Qb : Bool → Rho → Zs → Prop) (Ql : List D → Rho → Zs → Prop) (Qf : Fl → Rho → Zs → Prop) (Qo : Option Int → Rho → Zs → Prop) (X : Er → Rho → Zs → Prop) (z : Zs)
variable (m ma mb : E D) (ml mk : E (List D)) (mt m1 m2 : E Bool) (s s1 s2 : E Fl) (i j k n : Nat)
@[simp] theorem eb_a (m : E α) (f : α → E β) (Q : β → Rho → Zs → Prop) : eb m f ρ Q X z = m ρ (fun a ρ' z' => f a ρ' Q X z') X z := propext Iff.rfl
@[simp] theorem ep_a (a : α) (Q : α → Rho → Zs → Prop) : ep a ρ Q X z = Q a ρ z := propext Iff.rfl
@[simp] theorem eP_a (p : (α → Prop) → Prop) (Q : α → Rho → Zs → Prop) : eP p ρ Q X z = p fun a => Q a ρ z := propext Iff.rfl
@[simp] theorem eT_a : eT m ρ Qb X z = m ρ (fun d ρ' z' => fT d ρ' Qb X z') X z := propext Iff.rfl
@[simp] theorem fT_a (b : Bool) : fT (.bl b) ρ Qb X z = Qb b ρ z := propext Iff.rfl
@[simp] theorem eIf_a (a b : E α) (Q : α → Rho → Zs → Prop) : eIf mt a b ρ Q X z = mt ρ (fun t ρ' z' => (if t = true then a else b) ρ' Q X z') X z := propext Iff.rfl
@[simp] theorem eAnd_a : eAnd m1 m2 ρ Qb X z = m1 ρ (fun t ρ' z' => (if t = true then m2 else ep false) ρ' Qb X z') X z := propext Iff.rfl
@[simp] theorem eOr_a : eOr m1 m2 ρ Qb X z = m1 ρ (fun t ρ' z' => (if t = true then ep true else m2) ρ' Qb X z') X z := propext Iff.rfl
@[simp] theorem eAndV_a : eAndV ma mb ρ Qd X z = ma ρ (fun d ρ' z' => fAndV mb d ρ' Qd X z') X z := propext Iff.rfl
@[simp] theorem eOrV_a : eOrV ma mb ρ Qd X z = ma ρ (fun d ρ' z' => fOrV mb d ρ' Qd X z') X z := propext Iff.rfl
@[simp] theorem eTup_a : eTup ml ρ Qd X z = ml ρ (fun ds ρ' z' => ds.length ≤ 16777216 ∧ Qd (.tup ds) ρ' z') X z := propext Iff.rfl
@[simp] theorem eLst_a : eLst ml ρ Ql X z = ml ρ (fun ds ρ' z' => ds.length ≤ 16777216 ∧ Ql ds ρ' z') X z := propext Iff.rfl
@[simp] theorem eCall_a (n n1 n2 : Nat) (f : List D → E0 α) (gD : List D → List D → List D) (Q : α → Rho → Zs → Prop) : eCall n n1 n2 f gD ml mk ρ Q X z = ml ρ (fun ds ρ1 z1 => mk ρ1 (fun es ρ2 z2 =>
  ds.length = n1 ∧ es.length = n2 ∧ (gD ds es).length = n ∧ f (gD ds es) (fun a z' => Q a ρ2 z') (fun e z' => X e ρ2 z') z2) X z1) X z := propext Iff.rfl
@[simp] theorem fRight_a (f : List D → E0 D) (x y : Int) : fRight f [.int x, .int y, .int 0] ρ Qd X z = ((0 ≤ x ∧ 0 ≤ y ∧ y < 10 ^ 24 + 7 ∧ z.cs = []) ∧ f [.cel] (fun d _ => ∃ b, d = .bl b ∧ Qd (.bl b) ρ z) (fun _ _ => False) {}) := propext Iff.rfl
@[simp] theorem sSeq_a : sSeq s1 s2 ρ Qf X z = s1 ρ (fun fl ρ' z' => fSeq s2 fl ρ' Qf X z') X z := propext Iff.rfl
@[simp] theorem sIf_a : sIf mt s1 s2 ρ Qf X z = mt ρ (fun t ρ' z' => (if t = true then s1 else s2) ρ' Qf X z') X z := propext Iff.rfl
@[simp] theorem sRet_a : sRet m ρ Qf X z = m ρ (fun d ρ' z' => Qf (.ret d) ρ' z') X z := propext Iff.rfl
@[simp] theorem sRetO_a : sRetO ml ρ Qf X z = ml ρ (fun d ρ' z' => Qf (.retO d) ρ' z') X z := propext Iff.rfl
@[simp] theorem sExpr_a : sExpr m ρ Qf X z = m ρ (fun _ ρ' z' => Qf .nx ρ' z') X z := propext Iff.rfl
@[simp] theorem sAsg_a (tg : Tg) : sAsg m tg ρ Qf X z = m ρ (fun d ρ' z' => tg d ρ' fun ρ'' => Qf .nx ρ'' z') X z := propext Iff.rfl
@[simp] theorem sAsgO_a : sAsgO ml i ρ Qf X z = ml ρ (fun ds ρ' z' => Qf .nx (ρ'.set i (.own ds)) z') X z := propext Iff.rfl
@[simp] theorem sPar_a : sPar i j ml ρ Qf X z = ml ρ (fun ds ρ' z' => match ds with
  | [d1, d2] => Qf .nx ((ρ'.set i (.fr d1)).set j (.fr d2)) z'
  | _ => False) X z := propext Iff.rfl
@[simp] theorem sRaise_a (c : Str) : sRaise c m ρ Qf X z = m ρ (fun d ρ' z' => X (c, d) ρ' z') X z := propext Iff.rfl
@[simp] theorem sTry_a (tbl : Str → Option Bool) (hM : Addr → Addr → Str → E Fl) : sTry i s tbl hM ρ Qf X z = s ρ Qf (fun e ρ' z' => ∃ b, tbl e.1 = some b ∧ if b = true then ∀ a x, hM a x e.1 (ρ'.set i (.fr (.exn a x e.1 e.2))) (dropX i Qf) (fun _ _ _ => False) z' else X e ρ' z') z := propext Iff.rfl
@[simp] theorem sFor_a (tg : Tg) : sFor ml tg s ρ Qf X z = ml ρ (fun ds ρ' z' => forL tg s ds ρ' Qf X z') X z := propext Iff.rfl
@[simp] theorem forL_nil (tg : Tg) : forL tg s [] ρ Qf X z = Qf .nx ρ z := propext Iff.rfl
theorem forL_cons (tg : Tg) (d : D) (ds : List D) : forL tg s (d :: ds) ρ Qf X z = tg d ρ (fun ρ1 => s ρ1 (fun fl ρ2 z2 => forK (forL tg s ds) fl ρ2 Qf X z2) X z) := propext Iff.rfl
theorem whL_succ : whL mt s (n + 1) ρ Qf X z = mt ρ (fun t ρ' z' => (if t = true then (fun ρ Q X z => s ρ (fun fl ρ2 z2 => forK (whL mt s n) fl ρ2 Q X z2) X z) else ep .nx) ρ' Qf X z') X z := propext Iff.rfl
theorem sWhile_a (mb : E Fl) : sWhile mt mb ρ Qf X z = ∃ n, whL mt mb n ρ Qf X z := propext Iff.rfl
@[simp] theorem eLc_a (vs : List Nat) (tg : Tg) (me : E D) : eLc vs ml tg mt me ρ Ql X z = ml ρ (fun ds ρ' z' => lcL vs tg mt me ds [] (wipeR ρ' vs) Ql X z') X z := propext Iff.rfl
@[simp] theorem lcL_nil (vs : List Nat) (tg : Tg) (me : E D) (acc : List D) : lcL vs tg mt me [] acc ρ Ql X z = Ql acc ρ z := propext Iff.rfl
theorem lcL_cons (vs : List Nat) (tg : Tg) (me : E D) (d : D) (ds acc : List D) : lcL vs tg mt me (d :: ds) acc ρ Ql X z = tg d ρ (fun ρ1 => mt ρ1 (fun t ρ2 z2 => if t = true then me ρ2 (fun y ρ3 z3 => acc.length < 16777216 ∧ lcL vs tg mt me ds (acc ++ [y]) (wipeR ρ3 vs) Ql X z3) (fun _ _ _ => False) z2 else lcL vs tg mt me ds acc (wipeR ρ2 vs) Ql X z2) (fun _ _ _ => False) z) := propext Iff.rfl
end
@[simp] theorem eVar_0 (d : D) (ρ : Rho) (Q : D → Rho → Zs → Prop) (X : Er → Rho → Zs → Prop) (z : Zs) : eVar 0 (.fr d :: ρ) Q X z = Q d (.fr d :: ρ) z := propext Iff.rfl
@[simp] theorem eVar_0o (ds : List D) (ρ : Rho) (Q : D → Rho → Zs → Prop) (X : Er → Rho → Zs → Prop) (z : Zs) : eVar 0 (.own ds :: ρ) Q X z = Q (.lst ds) (.fr (.lst ds) :: ρ) z := propext Iff.rfl
@[simp] theorem eVar_s (i : Nat) (s : Sl) (ρ : Rho) (Q : D → Rho → Zs → Prop) (X : Er → Rho → Zs → Prop) (z : Zs) : eVar (i + 1) (s :: ρ) Q X z = eVar i ρ (fun d ρ' z' => Q d (s :: ρ') z') (fun e ρ' z' => X e (s :: ρ') z') z := by
  unfold eVar
  rw [List.getElem?_cons_succ]
  exact propext Iff.rfl
@[simp] theorem ePk_0 (d : D) (ρ : Rho) (Q : D → Rho → Zs → Prop) (X : Er → Rho → Zs → Prop) (z : Zs) : ePk 0 (.fr d :: ρ) Q X z = Q d (.fr d :: ρ) z := propext Iff.rfl
@[simp] theorem ePk_0o (ds : List D) (ρ : Rho) (Q : D → Rho → Zs → Prop) (X : Er → Rho → Zs → Prop) (z : Zs) : ePk 0 (.own ds :: ρ) Q X z = Q (.lst ds) (.own ds :: ρ) z := propext Iff.rfl
@[simp] theorem ePk_s (i : Nat) (s : Sl) (ρ : Rho) (Q : D → Rho → Zs → Prop) (X : Er → Rho → Zs → Prop) (z : Zs) : ePk (i + 1) (s :: ρ) Q X z = ePk i ρ (fun d ρ' z' => Q d (s :: ρ') z') (fun e ρ' z' => X e (s :: ρ') z') z := by
  unfold ePk
  rw [List.getElem?_cons_succ]
section
variable (ρ : Rho) (Qd : D → Rho → Zs → Prop) (Qf : Fl → Rho → Zs → Prop) (X : Er → Rho → Zs → Prop) (z : Zs) (t : Sl) (m ma mb : E D) (i k : Nat)
@[simp] theorem ePz_0 : ePz 0 0 (.fr .cel :: ρ) Qd X z = ∀ x : Int, 0 ≤ x → Qd (.int x) (.fr .cel :: ρ) z := propext Iff.rfl
@[simp] theorem ePz_1 : ePz 0 1 (.fr .cel :: ρ) Qd X z = ∀ y : Int, 0 ≤ y → y < 10 ^ 24 + 7 → Qd (.int y) (.fr .cel :: ρ) z := propext Iff.rfl
@[simp] theorem ePz_2 : ePz 0 2 (.fr .cel :: ρ) Qd X z = (0 ≤ z.n → Qd (.int z.n) (.fr .cel :: ρ) z) := propext Iff.rfl
@[simp] theorem sPz_0 : sPz 0 0 m (.fr .cel :: ρ) Qf X z = m (.fr .cel :: ρ) (fun d ρ' z' => match d with
    | .int v => ρ'[0]? = some (.fr .cel) ∧ (0 ≤ v ∧ Qf .nx ρ' z')
    | _ => False) X z := propext Iff.rfl
@[simp] theorem sPz_2 : sPz 0 2 m (.fr .cel :: ρ) Qf X z = m (.fr .cel :: ρ) (fun d ρ' z' => match d with
    | .int v => ρ'[0]? = some (.fr .cel) ∧ (0 ≤ v ∧ Qf .nx ρ' { z' with n := v })
    | _ => False) X z := propext Iff.rfl
@[simp] theorem sRetV_a : sRetV i (t :: ρ) Qf X z = (match (t :: ρ)[i]? with
  | some (.own ds) => Qf (.retO ds) (t :: ρ) z
  | _ => False) := propext Iff.rfl
@[simp] theorem sApp_a : sApp i m (t :: ρ) Qf X z = (match (t :: ρ)[i]? with
  | some (.own _) => m (t :: ρ) (fun y ρ' z' => match ρ'[i]? with
    | some (.own ds) => ds.length < 16777216 ∧ Qf .nx (ρ'.set i (.own (ds ++ [y]))) z'
    | _ => False) X z
  | _ => False) := propext Iff.rfl
@[simp] theorem sMt0_a (f : List D → List D) : sMt0 i f (t :: ρ) Qf X z = (match (t :: ρ)[i]? with
  | some (.own ds) => Qf .nx ((t :: ρ).set i (.own (f ds))) z
  | _ => False) := propext Iff.rfl
@[simp] theorem sSetI_a : sSetI i ma mb ρ Qf X z = ma ρ (fun y ρ1 z1 => match ρ1[i]? with
  | some (.own _) => mb ρ1 (fun d ρ' z' => match ρ'[i]?, d with
    | some (.own ds), .int k => ∃ j, ixN ds.length k = some j ∧ Qf .nx (ρ'.set i (.own (ds.set j y))) z'
    | _, _ => False) X z1
  | _ => False) X z := propext Iff.rfl
@[simp] theorem eExv_a (a x : Addr) : eExv i a x (t :: ρ) Qd X z = (match (t :: ρ)[i]? with
  | some (.fr (.exn a' x' _ d)) => (a' = a ∧ x' = x) ∧ Qd d (t :: ρ) z
  | _ => False) := propext Iff.rfl
@[simp] theorem eIsX_a (a x : Addr) (nm : Str) (tbl : Str → Option Bool) : eIsX i a x nm tbl (t :: ρ) Qd X z = (match (t :: ρ)[i]? with
  | some (.fr (.exn a' x' nm' _)) => (a' = a ∧ x' = x ∧ nm' = nm) ∧ ∃ b, tbl nm = some b ∧ Qd (.bl b) (t :: ρ) z
  | _ => False) := propext Iff.rfl
end
section
variable (s : E Fl) (d : D) (ds es : List D) (a b : Int) (u v : Bool) (x y : Str) (Q : D → Prop) (QL : List D → Prop) (Qb : Bool → Prop) (ρ : Rho) (z : Zs) (R : D → Zs → Prop) (RL : List D → Zs → Prop) (Qf : Fl → Rho → Zs → Prop) (i : Nat)
@[simp] theorem fSeq_1 : fSeq s .nx = s := funext fun _ => rfl
@[simp] theorem fSeq_2 : fSeq s (.ret d) = ep (.ret d) := funext fun _ => rfl
@[simp] theorem fSeq_3 : fSeq s (.retO ds) = ep (.retO ds) := funext fun _ => rfl
@[simp] theorem fSeq_4 : fSeq s .bk = ep .bk := funext fun _ => rfl
@[simp] theorem fSeq_5 : fSeq s .ct = ep .ct := funext fun _ => rfl
@[simp] theorem forK_1 : forK s .nx = s := funext fun _ => rfl
@[simp] theorem forK_2 : forK s (.ret d) = ep (.ret d) := funext fun _ => rfl
@[simp] theorem forK_3 : forK s (.retO ds) = ep (.retO ds) := funext fun _ => rfl
@[simp] theorem forK_4 : forK s .bk = ep .nx := funext fun _ => rfl
@[simp] theorem forK_5 : forK s .ct = s := funext fun _ => rfl
@[simp] theorem outF_1 : outF R .nx ρ z = R .non z := propext Iff.rfl
@[simp] theorem outF_2 : outF R (.ret d) ρ z = R d z := propext Iff.rfl
@[simp] theorem outF_3 : outF R (.retO ds) ρ z = R (.lst ds) z := propext Iff.rfl
@[simp] theorem outF_4 : outF R .bk ρ z = False := propext Iff.rfl
@[simp] theorem outF_5 : outF R .ct ρ z = False := propext Iff.rfl
@[simp] theorem outO_1 : outO RL .nx ρ z = False := propext Iff.rfl
@[simp] theorem outO_2 : outO RL (.ret d) ρ z = False := propext Iff.rfl
@[simp] theorem outO_3 : outO RL (.retO ds) ρ z = RL ds z := propext Iff.rfl
@[simp] theorem dropX_1 : dropX i Qf .nx ρ z = Qf .nx (ρ.set i .no) z := propext Iff.rfl
@[simp] theorem dropX_2 : dropX i Qf (.ret d) ρ z = Qf (.ret d) ρ z := propext Iff.rfl
@[simp] theorem dropX_3 : dropX i Qf (.retO ds) ρ z = Qf (.retO ds) ρ z := propext Iff.rfl
@[simp] theorem dropX_4 : dropX i Qf .bk ρ z = Qf .bk (ρ.set i .no) z := propext Iff.rfl
@[simp] theorem dropX_5 : dropX i Qf .ct ρ z = Qf .ct (ρ.set i .no) z := propext Iff.rfl
@[simp] theorem gN_a (Qr : Rho → Prop) : gN i d ρ Qr = Qr (ρ.set i (.fr d)) := propext Iff.rfl
@[simp] theorem gNl_a (Qr : Rho → Prop) : gNl [] ρ Qr = Qr ρ := by unfold gNl; simp
@[simp] theorem gCn_a (t : Tg) (u : Tgs) (Qr : Rho → Prop) : gCn t u (d :: ds) ρ Qr = t d ρ fun ρ' => u ds ρ' Qr := propext Iff.rfl
@[simp] theorem gTp_a (n : Nat) (u : Tgs) (Qr : Rho → Prop) : gTp n u (.tup ds) ρ Qr = (ds.length = n ∧ u ds ρ Qr) := propext Iff.rfl
@[simp] theorem gTp_l (n : Nat) (u : Tgs) (Qr : Rho → Prop) : gTp n u (.lst ds) ρ Qr = (ds.length = n ∧ u ds ρ Qr) := propext Iff.rfl
@[simp] theorem dAdd_1 : dAdd (.int a) (.int b) Q = Q (.int (a + b)) := propext Iff.rfl
@[simp] theorem dAdd_2 : dAdd (.str x) (.str y) Q = (x.length + y.length ≤ 16777216 ∧ Q (.str (x ++ y))) := propext Iff.rfl
@[simp] theorem dAdd_3 : dAdd (.tup ds) (.tup es) Q = (ds.length + es.length ≤ 16777216 ∧ Q (.tup (ds ++ es))) := propext Iff.rfl
@[simp] theorem dCat_1 : dCat (.lst ds) (.lst es) QL = (ds.length + es.length ≤ 16777216 ∧ QL (ds ++ es)) := propext Iff.rfl
@[simp] theorem dSub_1 : dSub (.int a) (.int b) Q = Q (.int (a - b)) := propext Iff.rfl
@[simp] theorem dMul_1 : dMul (.int a) (.int b) Q = (MulC a b ∧ Q (.int (a * b))) := propext Iff.rfl
@[simp] theorem dDiv_1 : dDiv (.int a) (.int b) Q = ((b ≠ 0 ∧ b.natAbs.log2 < 9000) ∧ Q (.int (a.fdiv b))) := propext Iff.rfl
@[simp] theorem dMod_1 : dMod (.int a) (.int b) Q = (b ≠ 0 ∧ Q (.int (a.fmod b))) := propext Iff.rfl
@[simp] theorem dPow_1 : dPow (.int a) (.int b) Q = ((0 ≤ b ∧ (Builtin.Int.intBits a : Int) * b ≤ 2 ^ 27) ∧ Q (.int (a ^ b.toNat))) := propext Iff.rfl
@[simp] theorem dEqB_1 : dEqB (.int a) (.int b) Qb = Qb (decide (a = b)) := propext Iff.rfl
@[simp] theorem dEqB_2 : dEqB (.str x) (.str y) Qb = Qb (decide (x = y)) := propext Iff.rfl
@[simp] theorem dEqB_3 : dEqB (.bl u) (.bl v) Qb = Qb (decide (u = v)) := propext Iff.rfl
@[simp] theorem dEqB_4 : dEqB (.tup ds) (.tup es) Qb = dEqG (.tup ds) (.tup es) Qb := propext Iff.rfl
@[simp] theorem dEqB_5 : dEqB (.lst ds) (.lst es) Qb = dEqG (.lst ds) (.lst es) Qb := propext Iff.rfl
@[simp] theorem dEqB_6 : dEqB (.non) (.tup es) Qb = dEqG .non (.tup es) Qb := propext Iff.rfl
@[simp] theorem dEqB_7 : dEqB (.tup ds) .non Qb = dEqG (.tup ds) .non Qb := propext Iff.rfl
@[simp] theorem dEq_1 (p q : D) : dEq p q Q = dEqB p q fun t => Q (.bl t) := propext Iff.rfl
@[simp] theorem dNe_1 (p q : D) : dNe p q Q = dEqB p q fun t => Q (.bl (!t)) := propext Iff.rfl
@[simp] theorem dLt_1 : dLt (.int a) (.int b) Q = Q (.bl (decide (a < b))) := propext Iff.rfl
@[simp] theorem dLe_1 : dLe (.int a) (.int b) Q = Q (.bl (decide (a ≤ b))) := propext Iff.rfl
@[simp] theorem dGt_1 : dGt (.int a) (.int b) Q = Q (.bl (decide (b < a))) := propext Iff.rfl
@[simp] theorem dGe_1 : dGe (.int a) (.int b) Q = Q (.bl (decide (b ≤ a))) := propext Iff.rfl
@[simp] theorem dIsN_1 : dIsN .non .non Q = Q (.bl true) := propext Iff.rfl
@[simp] theorem dIsN_2 : dIsN (.int a) .non Q = Q (.bl false) := propext Iff.rfl
@[simp] theorem dIsN_3 : dIsN (.tup ds) .non Q = Q (.bl false) := propext Iff.rfl
@[simp] theorem dIsN_4 : dIsN (.lst ds) .non Q = Q (.bl false) := propext Iff.rfl
@[simp] theorem dNotN_1 : dNotN .non .non Q = Q (.bl false) := propext Iff.rfl
@[simp] theorem dNotN_2 : dNotN (.int a) .non Q = Q (.bl true) := propext Iff.rfl
@[simp] theorem dNotN_3 : dNotN (.tup ds) .non Q = Q (.bl true) := propext Iff.rfl
@[simp] theorem dNotN_4 : dNotN (.lst ds) .non Q = Q (.bl true) := propext Iff.rfl
@[simp] theorem dNeg_1 : dNeg (.int a) Q = Q (.int (-a)) := propext Iff.rfl
@[simp] theorem dNot_1 : dNot (.bl u) Q = Q (.bl (!u)) := propext Iff.rfl
@[simp] theorem dIx_1 : dIx (.lst ds) (.int a) Q = ∃ d, atI ds a = some d ∧ Q d := propext Iff.rfl
@[simp] theorem dIx_2 : dIx (.tup ds) (.int a) Q = ∃ d, atI ds a = some d ∧ Q d := propext Iff.rfl
@[simp] theorem dIx_3 (ns : List Int) : dIx (.scr ns) (.int a) Q = ∃ j, atI ns a = some j ∧ Q (.int j) := propext Iff.rfl
@[simp] theorem dTru_1 : dTru (.bl u) Qb = Qb u := propext Iff.rfl
@[simp] theorem dTru_2 : dTru (.int a) Qb = Qb (a != 0) := propext Iff.rfl
@[simp] theorem dTru_3 : dTru (.lst ds) Qb = Qb (!ds.isEmpty) := propext Iff.rfl
@[simp] theorem dTru_4 : dTru (.tup ds) Qb = Qb (!ds.isEmpty) := propext Iff.rfl
@[simp] theorem dTru_5 : dTru .non Qb = Qb false := propext Iff.rfl
@[simp] theorem dLen_1 : dLen (.lst ds) Q = Q (.int ds.length) := propext Iff.rfl
@[simp] theorem dLen_2 : dLen (.tup ds) Q = Q (.int ds.length) := propext Iff.rfl
@[simp] theorem dLen_3 (ns : List Int) : dLen (.scr ns) Q = Q (.int ns.length) := propext Iff.rfl
@[simp] theorem dAbs_1 : dAbs (.int a) Q = Q (.int (if a < 0 then -a else a)) := propext Iff.rfl
@[simp] theorem dInt_1 : dInt (.int a) Q = Q (.int a) := propext Iff.rfl
@[simp] theorem dInt_2 : dInt (.bl u) Q = Q (.int (if u then 1 else 0)) := propext Iff.rfl
@[simp] theorem dBool_1 : dBool (.int a) Q = Q (.bl (a != 0)) := propext Iff.rfl
@[simp] theorem dBool_2 : dBool (.bl u) Q = Q (.bl u) := propext Iff.rfl
@[simp] theorem dMax_1 : dMax (.int a) (.int b) Q = Q (.int (if b > a then b else a)) := propext Iff.rfl
@[simp] theorem dMin_1 : dMin (.int a) (.int b) Q = Q (.int (if b < a then b else a)) := propext Iff.rfl
@[simp] theorem fPart_1 : fPart (.int a) = ep (some a) := funext fun _ => rfl
@[simp] theorem fSlO_1 (lo hi : Option Int) : fSlO (.lst ds) lo hi = ep (cutD ds lo hi) := funext fun _ => rfl
@[simp] theorem fSlE_1 (lo hi : Option Int) : fSlE (.tup ds) lo hi = ep (.tup (cutD ds lo hi)) := funext fun _ => rfl
@[simp] theorem fList_1 : fList (.lst ds) = ep ds := funext fun _ => rfl
@[simp] theorem fList_2 : fList (.tup ds) = ep ds := funext fun _ => rfl
@[simp] theorem fTuple_1 : fTuple (.lst ds) = ep (.tup ds) := funext fun _ => rfl
@[simp] theorem fTuple_2 : fTuple (.tup ds) = ep (.tup ds) := funext fun _ => rfl
@[simp] theorem fSeqI_1 : fSeqI (.lst ds) = ep ds := funext fun _ => rfl
@[simp] theorem fSeqI_2 : fSeqI (.tup ds) = ep ds := funext fun _ => rfl
@[simp] theorem fRng1_1 (X : Er → Rho → Zs → Prop) (Ql : List D → Rho → Zs → Prop) : fRng1 [.int a] ρ Ql X z = ((-(2 ^ 62) ≤ a ∧ a < 2 ^ 62) ∧ Ql (rngD 0 a.toNat) ρ z) := propext Iff.rfl
@[simp] theorem fRng2_1 (X : Er → Rho → Zs → Prop) (Ql : List D → Rho → Zs → Prop) : fRng2 [.int a, .int b] ρ Ql X z = ((-(2 ^ 62) ≤ a ∧ a < 2 ^ 62 ∧ -(2 ^ 62) ≤ b ∧ b < 2 ^ 62) ∧ Ql (rngD a (b - a).toNat) ρ z) := propext Iff.rfl
@[simp] theorem fEnum_1 : fEnum [.lst ds] = ep (enumD 0 ds) := funext fun _ => rfl
@[simp] theorem fZip_1 : fZip [.lst ds, .lst es] = ep (zipD ds es) := funext fun _ => rfl
@[simp] theorem fAndV_1 (m : E D) : fAndV m (.bl u) = if u = true then m else ep (.bl false) := funext fun _ => rfl
@[simp] theorem fOrV_2 (m : E D) : fOrV m (.bl u) = if u = true then ep (.bl true) else m := funext fun _ => rfl
end
/-- a test that is not decided yet -/
@[simp] theorem ite_E {α : Type} (c : Prop) [Decidable c] (A B : E α) (ρ : Rho) (Q : α → Rho → Zs → Prop) (X : Er → Rho → Zs → Prop) (z : Zs) : (if c then A else B) ρ Q X z = ((c → A ρ Q X z) ∧ (¬ c → B ρ Q X z)) := by
  by_cases h : c
  · simp [h]
  · simp [h]
@[simp] theorem bits10 : Builtin.Int.intBits 10 = 4 := by decide +kernel
theorem bits_of {i : Int} {n : Nat} (h : i.natAbs < 2 ^ n) (hn : 0 < n) : (Builtin.Int.intBits i : Int) ≤ n := by
  have := bits_le h hn
  omega
@[simp] theorem gL_a (a b : List D) : gL a b = a := by cases a <;> rfl
@[simp] theorem gP_a (ix : List Nat) (a b : List D) : gP ix a b = pick ix (a ++ b) := by cases a <;> rfl
@[simp] theorem pick_0 (l : List D) : pick [] l = [] := by cases l <;> rfl
@[simp] theorem pick_1 (i : Nat) (r : List Nat) (l : List D) : pick (i :: r) l = (match l[i]? with
  | some x => x :: pick r l
  | none => pick r l) := by
  unfold pick
  rw [List.filterMap_cons]
  cases l[i]? <;> rfl
@[simp] theorem dRepr_1 (ds : List D) (Q : D → Prop) : dRepr (.lst ds) Q = (reprOk (.lst ds) ∧ Q (.str (D.lst ds).py.shown)) := propext Iff.rfl
@[simp] theorem dRepr_2 (ds : List D) (Q : D → Prop) : dRepr (.tup ds) Q = (reprOk (.tup ds) ∧ Q (.str (D.tup ds).py.shown)) := propext Iff.rfl
/-! ## what may be shown -/
mutual
def D.okS : D → Prop
  | .non => True
  | .bl _ => True
  | .int i => i.natAbs < 2 ^ 200
  | .str s => ∀ c ∈ s.cps.toList, c < 16 ^ 8
  | .lst xs => okSL xs
  | .tup xs => okSL xs
  | _ => False
def okSL : List D → Prop
  | [] => True
  | x :: r => x.okS ∧ okSL r
end
mutual
def D.blk : D → Nat
  | .str s => s.cps.size
  | .lst xs => blkL xs
  | .tup xs => blkL xs
  | _ => 0
def blkL : List D → Nat
  | [] => 0
  | x :: r => x.blk + 1 + blkL r
end
mutual
def D.dep : D → Nat
  | .lst xs => depL xs + 1
  | .tup xs => depL xs + 1
  | _ => 0
def depL : List D → Nat
  | [] => 0
  | x :: r => max x.dep (depL r)
end
mutual
theorem okS_all : ∀ d : D, d.okS → d.isPy = true ∧ d.py.showable = true ∧ d.py.leavesShort 202 = true ∧ d.py.bulk = d.blk ∧ d.py.depth = d.dep
  | .non, _ => ⟨rfl, rfl, rfl, rfl, rfl⟩
  | .bl _, _ => ⟨rfl, rfl, rfl, rfl, rfl⟩
  | .int i, h => by
    have hl : i.natAbs.log2 < 200 := PySem.Flt.log2_lt_of (by omega) h
    refine ⟨rfl, decide_eq_true (by omega), ?_, rfl, rfl⟩
    have := PySem.int_text_length_le (a := i) (k := 200) (by omega) hl
    refine decide_eq_true ?_
    show (PySem.Str.ofString (toString i)).length ≤ 202
    rw [PySem.ofString_length]
    omega
  | .str s, h => ⟨rfl, rfl, by
      show (s.cps.toList.all fun c => decide (c < 16 ^ 8)) = true
      rw [List.all_eq_true]
      exact fun c hc => decide_eq_true (h c hc), rfl, rfl⟩
  | .lst xs, h => by
    obtain ⟨h1, h2, h3, h4, h5⟩ := okSL_all xs h
    exact ⟨h1, h2, h3, h4, congrArg (· + 1) h5⟩
  | .tup xs, h => by
    obtain ⟨h1, h2, h3, h4, h5⟩ := okSL_all xs h
    exact ⟨h1, h2, h3, h4, congrArg (· + 1) h5⟩
  | .cel, h => h.elim
  | .ins _ _ _, h => h.elim
  | .dic _ _, h => h.elim
  | .exn _ _ _ _, h => h.elim
  | .scr _, h => h.elim
theorem okSL_all : ∀ ds : List D, okSL ds → isPyL ds = true ∧ PyData.showableAll (pyL ds) = true ∧ PyData.leavesShortAll 202 (pyL ds) = true ∧ PyData.bulkAll (pyL ds) = blkL ds ∧ PyData.depthAll (pyL ds) = depL ds
  | [], _ => ⟨rfl, rfl, rfl, rfl, rfl⟩
  | d :: r, h => by
    obtain ⟨h1, h2, h3, h4, h5⟩ := okS_all d h.1
    obtain ⟨k1, k2, k3, k4, k5⟩ := okSL_all r h.2
    refine ⟨?_, ?_, ?_, ?_, ?_⟩
    · show (d.isPy && isPyL r) = true
      rw [h1, k1]; rfl
    · show (d.py.showable && PyData.showableAll (pyL r)) = true
      rw [h2, k2]; rfl
    · show (d.py.leavesShort 202 && PyData.leavesShortAll 202 (pyL r)) = true
      rw [h3, k3]; rfl
    · show d.py.bulk + 1 + PyData.bulkAll (pyL r) = d.blk + 1 + blkL r
      rw [h4, k4]
    · show max d.py.depth (PyData.depthAll (pyL r)) = max d.dep (depL r)
      rw [h5, k5]
end
theorem reprOk_of {d : D} (h : d.okS) (hd : d.dep ≤ 60) (hb : d.blk ≤ 80000) : reprOk d := by
  obtain ⟨h1, h2, h3, h4, h5⟩ := okS_all d h
  have := PyData.shown_le_bulk 202 (by omega) d.py h3
  exact ⟨h1, h2, by omega, by omega⟩
theorem mulC_l {a b : Int} (h : -9223372036854775808 < a ∧ a < 9223372036854775808) : MulC a b := .inl (by omega)
theorem mulC_r {a b : Int} (h : -9223372036854775808 < b ∧ b < 9223372036854775808) : MulC a b := .inr (.inl (by omega))
theorem log_lt {n : Int} (h : -9223372036854775808 < n ∧ n < 9223372036854775808) : n.natAbs.log2 < 9000 := by
  have : n.natAbs.log2 < 64 := PySem.Flt.log2_lt_of (by omega) (by omega)
  omega
theorem log_lt2 {n : Int} (h : n.natAbs < 2 ^ 1000) : n.natAbs.log2 < 9000 := by
  have : n.natAbs.log2 < 1000 := PySem.Flt.log2_lt_of (by omega) h
  omega
theorem bits_3 {i : Int} (h : i.natAbs < 2 ^ 200) : (Builtin.Int.intBits i : Int) * 3 ≤ 134217728 := by
  have := bits_of h (by omega)
  omega
theorem bits_2 {i : Int} (h : i.natAbs < 2 ^ 200) : (Builtin.Int.intBits i : Int) * 2 ≤ 134217728 := by
  have := bits_of h (by omega)
  omega
theorem fmod_b (a : Int) {b : Int} (h : 0 < b) : 0 ≤ a.fmod b ∧ a.fmod b < b := ⟨Int.fmod_nonneg_of_pos a h, Int.fmod_lt_of_pos a h⟩
theorem log1024 : Nat.log2 1024 < 9000 := by decide +kernel
theorem atI_nat {α : Type} (l : List α) (j : Nat) (h : j < l.length) : L2.atI l (j : Int) = some l[j] := by
  unfold L2.atI ixN
  rw [if_pos (by omega), if_pos (by omega)]
  simp
theorem gcd_step (a b : Int) (ha : 0 ≤ a) (hb : 0 < b) : Int.gcd b (a.fmod b) = Int.gcd a b := by
  rw [Int.fmod_eq_emod_of_nonneg a (by omega)]
  obtain ⟨m, rfl⟩ := Int.eq_ofNat_of_zero_le ha
  obtain ⟨n, rfl⟩ := Int.eq_ofNat_of_zero_le (Int.le_of_lt hb)
  show Nat.gcd n (m % n) = Nat.gcd m n
  rw [Nat.gcd_comm m n, Nat.gcd_rec n m, Nat.gcd_comm]
theorem gcd_abs (a b : Int) : Int.gcd (if a < 0 then -a else a) (if b < 0 then -b else b) = Int.gcd a b := by
  split <;> split <;> simp
@[simp] theorem atI_lit {α : Type} (l : List α) (n : Nat) : L2.atI l (no_index (OfNat.ofNat n : Int)) = l[n]? := by
  unfold L2.atI ixN
  have e : (OfNat.ofNat n : Int) = ((n : Nat) : Int) := rfl
  rw [e, if_pos (by omega)]
  by_cases h : n < l.length
  · rw [if_pos (by omega)]
    simp
  · rw [if_neg (by omega), List.getElem?_eq_none (by omega)]
    rfl
@[simp] theorem atI_neg1 {α : Type} (l : List α) : L2.atI l (-1) = l.getLast? := by
  unfold L2.atI ixN
  rw [if_neg (by omega), List.getLast?_eq_getElem?]
  by_cases h : l.length = 0
  · rw [if_neg (by omega), List.getElem?_eq_none (by omega)]
    rfl
  · rw [if_pos (by omega)]
    show l[((-1 : Int) + (l.length : Int)).toNat]? = _
    congr 1
    omega
theorem atI_all {α : Type} (l : List α) (c : Int) (h0 : 0 ≤ c) (h1 : c < l.length) (K : α → Prop) (h : ∀ d ∈ l, K d) : ∃ d, L2.atI l c = some d ∧ K d := by
  obtain ⟨j, rfl⟩ := Int.eq_ofNat_of_zero_le h0
  have hj : j < l.length := by omega
  exact ⟨l[j], atI_nat l j hj, h _ (List.getElem_mem hj)⟩
end DL

namespace DL
open PySem PySem.Spec PyProof.Rows L2

/-! ## a op b op c -/
section
variable {X : Cx} {C : CC} {W : WX} {e a b c : Expr} {ma mb mc : E D} {pos p : Pos} {k : Nat} {f g : P2}
def blK : D → (Bool → Prop) → Prop
  | .bl t, K => K t
  | _, _ => False
theorem blK_of {d : D} {K : Bool → Prop} (h : blK d K) : ∃ t, d = .bl t ∧ K t := by
  cases d with
  | bl t => exact ⟨t, rfl, h⟩
  | _ => exact h.elim
@[simp] theorem blK_1 (t : Bool) (K : Bool → Prop) : blK (.bl t) K = K t := propext Iff.rfl
def eCh (f g : P2) (ma mb mc : E D) : E D := eb ma fun x => eb mb fun y ρ Q X z => f x y fun d => blK d fun t => ((t = true → mc ρ (fun w ρ' z' => g y w fun d => Q d ρ' z') X z) ∧ (t = false → Q (.bl false) ρ z))
theorem den_chain {r r' : R2} {ta tb tc : TE} (ha : Den C W ta ma (kT C)) (hb : Den C W tb mb (kT C)) (hc : Den C W tc mc (kT C)) (ho : Op2 C W r (fun x y => eP (f x y)) (kR C)) (ho' : Op2 C W r' (fun x y => eP (g x y)) (kR C)) :
    Den C W (tChain r r' ta tb tc) (eCh f g ma mb mc) (kR C) := by
  refine Den.bind (u := fun x σ H Q => tb σ H fun y H2 => r x y H2 fun z H3 => ∃ k, z = V.bl k ∧ (if k = true then tc σ H3 fun w' H4 => r' y w' H4 Q else Q (.bl false) H3)) back_R ha fun H0 σ ρ F H z dx x Qd Xd Q S rx hm hq hx => ?_
  refine hb σ ρ F H z _ Xd _ S hm (fun dy ρ2 z2 y F2 H2 q2 S2 ff2 k2 o2 ry => ?_) hx
  refine ho σ ρ2 F2 H2 z2 x y dx dy (fun d ρ' z' => blK d fun t => ((t = true → mc ρ' (fun w ρ' z' => g dy w fun d => Qd d ρ' z') Xd z') ∧ (t = false → Qd (.bl false) ρ' z'))) Xd _ S2 (rx.keep ff2 k2).now ry.now q2 (fun d ρ3 z3 v F3 H3 q3 S3 ff3 k3 o3 r3 => ?_) (fun e ρ' z' cls dd F' H' q' S' ff' r' => hx e ρ' z' cls dd F' H' q' S' (ff2.trans ff') r')
  obtain ⟨t, rfl, q3, q4⟩ := blK_of q3
  cases r3
  refine ⟨t, rfl, ?_⟩
  have hh : ∀ c ρ' z' d F' H', Qd c ρ' z' → StOk C σ ρ' F' H' z' → Same F3 F' → Keep C.pa F3 F' H3 H' → Ole ρ' ρ3 → C.R F' d c → Q d H' := fun c ρ' z' d F' H' q S' ff' k' o' r' =>
    hq c ρ' z' d F' H' q S' (ff2.trans (ff3.trans ff')) (k2.trans (k3.trans k')) ((o'.trans o3).trans o2) r'
  have hxx : ∀ e ρ' z' cls dd F' H', Xd e ρ' z' → StOk C σ ρ' F' H' z' → Same F3 F' → ExR C F' H' e cls dd → W cls dd σ H' := fun e ρ' z' cls dd F' H' q S' ff' r' => hx e ρ' z' cls dd F' H' q S' (ff2.trans (ff3.trans ff')) r'
  cases t with
  | false =>
    rw [if_neg Bool.false_ne_true]
    exact S3.same (R := kR C) (q4 rfl) (.bl _) hh
  | true =>
    rw [if_pos rfl]
    refine hc σ ρ3 F3 H3 z3 _ Xd _ S3 (q3 rfl) (fun dw ρ4 z4 w F4 H4 q5 S4 ff4 k4 o4 rw' => ?_) hxx
    exact ho' σ ρ4 F4 H4 z4 y w dy dw Qd Xd Q S4 ((ry.keep ff3 k3).keep ff4 k4).now rw'.now q5
      (fun c ρ' z' d F' H' q' S' ff' k' o' r' => hh c ρ' z' d F' H' q' S' (ff4.trans ff') (k4.trans k') (o'.trans o4) r')
      (fun e ρ' z' cls dd F' H' q' S' ff' r' => hxx e ρ' z' cls dd F' H' q' S' (ff4.trans ff') r')
theorem xe_chain {op op' : CmpOp} {r r' : R2} (h : OpR X (compareOp op) r) (ho : Op2 C W r (fun x y => eP (f x y)) (kR C)) (h' : OpR X (compareOp op') r') (ho' : Op2 C W r' (fun x y => eP (g x y)) (kR C)) (ha : XP X C W a ma) (hb : XP X C W b mb) (hc : XP X C W c mc)
    (hm : lastMarks [op, op'] [b, c] = false := by with_unfolding_all rfl) : XE X C W (.Compare a [op, op'] [b, c] pos) (eCh f g ma mb mc) := by
  obtain ⟨ta, a1, a2⟩ := ha.ex
  obtain ⟨tb, b1, b2⟩ := hb.ex
  obtain ⟨tc, c1, c2⟩ := hc.ex
  exact ⟨_, pe_chain h h' a1 b1 c1 hm, den_chain a2 b2 c2 ho ho'⟩
end
@[simp] theorem eCh_a (f g : P2) (ma mb mc : E D) (ρ : Rho) (Q : D → Rho → Zs → Prop) (X : Er → Rho → Zs → Prop) (z : Zs) : eCh f g ma mb mc ρ Q X z = ma ρ (fun x ρ1 z1 => mb ρ1 (fun y ρ2 z2 => f x y fun d => blK d fun t => ((t = true → mc ρ2 (fun w ρ' z' => g y w fun d => Q d ρ' z') X z2) ∧ (t = false → Q (.bl false) ρ2 z2))) X z1) X z := propext Iff.rfl

/-! ## defs that call themselves: by fuel -/
def tyN : D → Option String
  | .non => some "NoneType"
  | .bl _ => some "bool"
  | .int _ => some "int"
  | .str _ => some "str"
  | .lst _ => some "list"
  | .tup _ => some "tuple"
  | _ => none
def dIsT (T : String) : P1 := fun d Q => ∃ t b, tyN d = some t ∧ kitB t T = some b ∧ Q (.bl b)
section
variable {X : Cx} {C : CC} {W : WX} {a : Expr} {ma : E D} {pos p p2 : Pos} {x : Str} {T : String}
end
@[simp] theorem dIsT_1 (T : String) (Q : D → Prop) : dIsT T .non Q = ∃ b, kitB "NoneType" T = some b ∧ Q (.bl b) := by simp [dIsT, tyN]
@[simp] theorem dIsT_2 (T : String) (v : Bool) (Q : D → Prop) : dIsT T (.bl v) Q = ∃ b, kitB "bool" T = some b ∧ Q (.bl b) := by simp [dIsT, tyN]
@[simp] theorem dIsT_3 (T : String) (v : Int) (Q : D → Prop) : dIsT T (.int v) Q = ∃ b, kitB "int" T = some b ∧ Q (.bl b) := by simp [dIsT, tyN]
@[simp] theorem dIsT_4 (T : String) (v : Str) (Q : D → Prop) : dIsT T (.str v) Q = ∃ b, kitB "str" T = some b ∧ Q (.bl b) := by simp [dIsT, tyN]
@[simp] theorem dIsT_5 (T : String) (v : List D) (Q : D → Prop) : dIsT T (.lst v) Q = ∃ b, kitB "list" T = some b ∧ Q (.bl b) := by simp [dIsT, tyN]
@[simp] theorem dIsT_6 (T : String) (v : List D) (Q : D → Prop) : dIsT T (.tup v) Q = ∃ b, kitB "tuple" T = some b ∧ Q (.bl b) := by simp [dIsT, tyN]
@[simp] theorem kb_NoneType_bool : kitB "NoneType" "bool" = some false := by decide +kernel
@[simp] theorem kb_NoneType_int : kitB "NoneType" "int" = some false := by decide +kernel
@[simp] theorem kb_NoneType_str : kitB "NoneType" "str" = some false := by decide +kernel
@[simp] theorem kb_NoneType_list : kitB "NoneType" "list" = some false := by decide +kernel
@[simp] theorem kb_NoneType_tuple : kitB "NoneType" "tuple" = some false := by decide +kernel
@[simp] theorem kb_bool_bool : kitB "bool" "bool" = some true := by decide +kernel
@[simp] theorem kb_bool_int : kitB "bool" "int" = some true := by decide +kernel
@[simp] theorem kb_bool_str : kitB "bool" "str" = some false := by decide +kernel
@[simp] theorem kb_bool_list : kitB "bool" "list" = some false := by decide +kernel
@[simp] theorem kb_bool_tuple : kitB "bool" "tuple" = some false := by decide +kernel
@[simp] theorem kb_int_bool : kitB "int" "bool" = some false := by decide +kernel
@[simp] theorem kb_int_int : kitB "int" "int" = some true := by decide +kernel
@[simp] theorem kb_int_str : kitB "int" "str" = some false := by decide +kernel
@[simp] theorem kb_int_list : kitB "int" "list" = some false := by decide +kernel
@[simp] theorem kb_int_tuple : kitB "int" "tuple" = some false := by decide +kernel
@[simp] theorem kb_str_bool : kitB "str" "bool" = some false := by decide +kernel
@[simp] theorem kb_str_int : kitB "str" "int" = some false := by decide +kernel
@[simp] theorem kb_str_str : kitB "str" "str" = some true := by decide +kernel
@[simp] theorem kb_str_list : kitB "str" "list" = some false := by decide +kernel
@[simp] theorem kb_str_tuple : kitB "str" "tuple" = some false := by decide +kernel
@[simp] theorem kb_list_bool : kitB "list" "bool" = some false := by decide +kernel
@[simp] theorem kb_list_int : kitB "list" "int" = some false := by decide +kernel
@[simp] theorem kb_list_str : kitB "list" "str" = some false := by decide +kernel
@[simp] theorem kb_list_list : kitB "list" "list" = some true := by decide +kernel
@[simp] theorem kb_list_tuple : kitB "list" "tuple" = some false := by decide +kernel
@[simp] theorem kb_tuple_bool : kitB "tuple" "bool" = some false := by decide +kernel
@[simp] theorem kb_tuple_int : kitB "tuple" "int" = some false := by decide +kernel
@[simp] theorem kb_tuple_str : kitB "tuple" "str" = some false := by decide +kernel
@[simp] theorem kb_tuple_list : kitB "tuple" "list" = some false := by decide +kernel
@[simp] theorem kb_tuple_tuple : kitB "tuple" "tuple" = some true := by decide +kernel
end DL

namespace DL
open PySem PySem.Spec PyProof.Rows L2

/-! ## a purse of one's own under a local name -/
mutual
def D.noC : D → Bool
  | .cel => false
  | .lst xs => noCL xs
  | .tup xs => noCL xs
  | .ins _ _ xs => noCL xs
  | .dic _ xs => noCL xs
  | .exn _ _ _ e => e.noC
  | .mc _ => false
  | _ => true
def noCL : List D → Bool
  | [] => true
  | x :: r => x.noC && noCL r
end
section
variable {K : PySem.W.Frag} {mg : Str → Option Value} {F : Hp} {q : Addr}
end
/-- the frozen part without marks -/
noncomputable def ug (F : Hp) : Hp := fun b => match F b with
  | some o => by classical exact if ∃ k, o = gh k then none else some o
  | none => none
theorem ug_some {F : Hp} {b : Addr} {o : HO} (h : ug F b = some o) : F b = some o ∧ NG o := by
  unfold ug at h
  cases e : F b with
  | none => rw [e] at h; cases h
  | some u =>
    rw [e] at h
    dsimp only at h
    split at h
    · cases h
    · rename_i n
      cases h
      exact ⟨rfl, fun k e => n ⟨k, e⟩⟩
theorem ug_in {F : Hp} : Sub F (ug F) := fun b o e n => by
  unfold ug
  rw [e]
  dsimp only
  rw [if_neg fun ⟨k, q⟩ => n k q]
theorem ug_none {F : Hp} {b : Addr} (h : F b = none) : ug F b = none := by
  unfold ug
  rw [h]
/-- the slots without what holds the purse -/
def clnS : Sl → Sl
  | .fr d => if d.noC = true then .fr d else .no
  | .own ds => if noCL ds = true then .own ds else .no
  | .no => .no
def cln (ρ : Rho) : Rho := ρ.map clnS
abbrev CC.wP (C : CC) (q : Addr) : CC := { C with pa := some q }
section
variable {C : CC} {σ : L2.St} {ρ : Rho} {F H : Hp} {z : Zs} {q : Addr}
end
def offP (Q : Fl → Rho → Zs → Prop) (z : Zs) : Fl → Rho → Prop
  | .ret d, ρ => ∃ b, d = .bl b ∧ Q (.ret (.bl b)) (cln ρ) z
  | .retO _, _ => False
  | fl, ρ => Q fl (cln ρ) z
def fPurse (i : Nat) (mr : E Fl) : List D → E Fl
  | [.int x, .int y, .int 0] => fun ρ Q _ z => (0 ≤ x ∧ 0 ≤ y ∧ y < 10 ^ 24 + 7 ∧ z.cs = []) ∧ mr (ρ.set i (.fr .cel)) (fun fl ρ' _ => offP Q z fl ρ') (fun _ _ _ => False) {}
  | _ => eStuck
section
variable {X : Cx} {C : CC} {W : WX} {e : Expr} {pos p : Pos} {x : Str} {rest : List Stmt} {mo : E (List D)} {mr : E Fl}
end
@[simp] theorem fPurse_a (i : Nat) (mr : E Fl) (x y : Int) (ρ : Rho) (Q : Fl → Rho → Zs → Prop) (X : Er → Rho → Zs → Prop) (z : Zs) : fPurse i mr [.int x, .int y, .int 0] ρ Q X z = ((0 ≤ x ∧ 0 ≤ y ∧ y < 10 ^ 24 + 7 ∧ z.cs = []) ∧ mr (ρ.set i (.fr .cel)) (fun fl ρ' _ => offP Q z fl ρ') (fun _ _ _ => False) {}) := propext Iff.rfl
@[simp] theorem offP_1 (Q : Fl → Rho → Zs → Prop) (z : Zs) (ρ : Rho) : offP Q z .nx ρ = Q .nx (cln ρ) z := propext Iff.rfl
@[simp] theorem offP_2 (Q : Fl → Rho → Zs → Prop) (z : Zs) (ρ : Rho) (b : Bool) : offP Q z (.ret (.bl b)) ρ = Q (.ret (.bl b)) (cln ρ) z := propext ⟨fun ⟨_, e, h⟩ => by cases e; exact h, fun h => ⟨b, rfl, h⟩⟩
def sPar3 (i j l : Nat) (ms : E (List D)) : E Fl := eb ms fun ds ρ Q _ z => match ds with
  | [d1, d2, d3] => Q .nx (((ρ.set i (.fr d1)).set j (.fr d2)).set l (.fr d3)) z
  | _ => False
theorem xs_par3 {X : Cx} {C : CC} {W : WX} {k : Nat} (i j l : Nat) {x y v : Str} {a b c : Expr} {px py pv pt pos : Pos} {kt k2 pt2} {ms : E (List D)} (kx : Kx X C W k) (hi : X.N[i]? = some x) (hj : X.N[j]? = some y) (hl : X.N[l]? = some v) (hij : i ≠ j) (hil : i ≠ l) (hjl : j ≠ l)
    (hx : X.env.scope.names.lookup x = some .local) (hy : X.env.scope.names.lookup y = some .local) (hv : X.env.scope.names.lookup v = some .local) (ha : XA X C W [a, b, c] ms)
    (hw : swappedStores [.Tuple [.Name x px, .Name y py, .Name v pv] kt pt] (.Tuple [a, b, c] k2 pt2) X.env = pure (some [x, y, v]))
    (hs : swapsWithSole [.Tuple [.Name x px, .Name y py, .Name v pv] kt pt] (.Tuple [a, b, c] k2 pt2) pos.line X.env = pure false := by rfl) :
    XS X C W (.Assign [.Tuple [.Name x px, .Name y py, .Name v pv] kt pt] (.Tuple [a, b, c] k2 pt2) pos) (sPar3 i j l ms) := by
  obtain ⟨t, a1, a2⟩ := ha.ex
  refine ⟨_, ps_par3 kx.calm kx.nd hi hj hl hij hil hjl hx hy hv a1 hw hs, fun σ ρ F H z Qd Xd Dn S hm hq hx => ?_⟩
  refine a2 σ ρ F H z _ Xd (fun vs H1 => ∃ u v w, vs = [u, v, w] ∧ Dn.nx (((σ.set i (some u)).set j (some v)).set l (some w)) H1) S hm (fun ds ρ1 z1 vs F1 H1 q1 S1 ff1 k1 o1 r1 => ?_) (fun e ρ' z' cls dd F' H' q S' ff r => hx e ρ' z' cls dd σ F' H' q S' ff r)
  dsimp only at q1
  split at q1
  · cases r1 with | cons r1 rr =>
    cases rr with | cons r2 rr =>
    cases rr with | cons r3 rr =>
    cases rr
    exact ⟨_, _, _, rfl, hq _ _ _ _ _ q1 ff1 _ (((S1.setF i r1).setF j r2).setF l r3)⟩
  · exact False.elim q1
@[simp] theorem sPar3_a (i j l : Nat) (ms : E (List D)) (ρ : Rho) (Q : Fl → Rho → Zs → Prop) (X : Er → Rho → Zs → Prop) (z : Zs) : sPar3 i j l ms ρ Q X z = ms ρ (fun ds ρ' z' => match ds with
  | [d1, d2, d3] => Q .nx (((ρ'.set i (.fr d1)).set j (.fr d2)).set l (.fr d3)) z'
  | _ => False) X z := propext Iff.rfl
/-! ## int in a tuple of ints; is of bools; max, min of a list -/
theorem inV_int (i : Int) : ∀ ns : List Int, inV (.int i) (ns.map V.int) = ns.any fun n => decide (n = i)
  | [] => rfl
  | n :: r => by
    have ih := inV_int i r
    unfold inV at ih ⊢
    rw [List.map_cons, List.any_cons, List.any_cons, ih]
    congr 1
theorem flat_ints : ∀ ns : List Int, (ns.map V.int).all flatV = true
  | [] => rfl
  | n :: r => by
    rw [List.map_cons, List.all_cons, flat_ints r]
    rfl
def dInT : P2
  | .int i, .tup ds, Q => ∃ ns, intsOf ds = some ns ∧ Q (.bl (ns.any fun n => decide (n = i)))
  | _, _, _ => False
def dNotInT : P2
  | .int i, .tup ds, Q => ∃ ns, intsOf ds = some ns ∧ Q (.bl (!ns.any fun n => decide (n = i)))
  | _, _, _ => False
section
variable {C : CC} {W : WX}
theorem o_inT : Op2 C W (rIn C.K false) (fun a b => eP (dInT a b)) (kR C) := op2_flat fun F H x y dx dy Q Qd s rx ry hp hq => by
  cases dx with
  | int i =>
    cases dy with
    | tup ds =>
      obtain ⟨ns, h1, q⟩ := hp
      obtain rfl := RT.int rx
      obtain ⟨a, xs, rfl, ha, r⟩ := RT.tup s ry
      have e := RpL.ints r h1
      subst e
      refine ⟨a, _, rfl, .inr ha, rfl, flat_ints ns, ?_⟩
      rw [if_neg Bool.false_ne_true, inV_int]
      exact hq _ _ q (.bl _)
    | _ => exact hp.elim
  | _ => exact hp.elim
def dIsB : P2
  | .bl a, .bl b, Q => Q (.bl (decide (a = b)))
  | _, _, _ => False
def dNotB : P2
  | .bl a, .bl b, Q => Q (.bl (!decide (a = b)))
  | _, _, _ => False
def dMaxL : P1
  | .lst ds, Q => ∃ ns, intsOf ds = some ns ∧ 0 < ns.length ∧ ∀ m, m ∈ ns → (∀ y, y ∈ ns → y ≤ m) → Q (.int m)
  | _, _ => False
def dMinL : P1
  | .lst ds, Q => ∃ ns, intsOf ds = some ns ∧ 0 < ns.length ∧ ∀ m, m ∈ ns → (∀ y, y ∈ ns → m ≤ y) → Q (.int m)
  | _, _ => False
end
@[simp] theorem dInT_1 (i : Int) (ds : List D) (Q : D → Prop) : dInT (.int i) (.tup ds) Q = ∃ ns, intsOf ds = some ns ∧ Q (.bl (ns.any fun n => decide (n = i))) := propext Iff.rfl
@[simp] theorem dNotInT_1 (i : Int) (ds : List D) (Q : D → Prop) : dNotInT (.int i) (.tup ds) Q = ∃ ns, intsOf ds = some ns ∧ Q (.bl (!ns.any fun n => decide (n = i))) := propext Iff.rfl
@[simp] theorem dIsB_1 (a b : Bool) (Q : D → Prop) : dIsB (.bl a) (.bl b) Q = Q (.bl (decide (a = b))) := propext Iff.rfl
@[simp] theorem dNotB_1 (a b : Bool) (Q : D → Prop) : dNotB (.bl a) (.bl b) Q = Q (.bl (!decide (a = b))) := propext Iff.rfl
@[simp] theorem dMaxL_1 (ds : List D) (Q : D → Prop) : dMaxL (.lst ds) Q = ∃ ns, intsOf ds = some ns ∧ 0 < ns.length ∧ ∀ m, m ∈ ns → (∀ y, y ∈ ns → y ≤ m) → Q (.int m) := propext Iff.rfl
@[simp] theorem dMinL_1 (ds : List D) (Q : D → Prop) : dMinL (.lst ds) Q = ∃ ns, intsOf ds = some ns ∧ 0 < ns.length ∧ ∀ m, m ∈ ns → (∀ y, y ∈ ns → m ≤ y) → Q (.int m) := propext Iff.rfl
@[simp] theorem intsOf_0 : intsOf [] = some [] := by unfold intsOf; exact Eq.refl _
@[simp] theorem intsOf_1 (b : Int) (r : List D) : intsOf (.int b :: r) = (intsOf r).map (b :: ·) := by rw [intsOf]
end DL

namespace DL
open PySem PySem.Spec PyProof.Rows L2

section
variable {X : Cx} {C : CC} {W : WX} {e a b : Expr} {m ma mb : E D} {pos p : Pos} {k : Nat} {x y : Str}
theorem xo_op {op : Operator} {r : R2} {f : D → D → E (List D)} (h : OpR X (binaryOp op) r) (ho : Op2 C W r f (RO C)) (ha : XP X C W a ma) (hb : XP X C W b mb) : XO X C W (.BinOp a op b pos) (eb ma fun x => eb mb fun y => f x y) := by
  obtain ⟨ta, a1, a2⟩ := ha.ex
  obtain ⟨tb, b1, b2⟩ := hb.ex
  exact ⟨_, pe_op h a1 b1, den_op back_O a2 b2 ho⟩
/-! ## x += e of ints -/
def sAug (f : Int → Int → Int) (i : Nat) (m : E D) : E Fl := fun ρ Q X z => match ρ[i]? with
  | some (.fr (.int a)) => m ρ (fun d ρ' z' => match d with
    | .int b => Q .nx (ρ'.set i (.fr (.int (f a b)))) z'
    | _ => False) X z
  | _ => False
theorem kx_hide {q : Addr} (kx : Kx X C W k) : Kx X (C.hide q) W k := ⟨kx.hK, kx.hmg, kx.calm, kx.gu, kx.room, kx.tk, kx.nd, kx.po⟩
theorem StOk.hideO {σ : L2.St} {ρ : Rho} {F H : Hp} {z : Zs} {q : Addr} {o : HO} (S : StOk C σ ρ F H z) (hf : F q = none) (hp : H q = some o) (np : some q ≠ C.pa) (no : ∀ (i : Nat) ys, ρ[i]? = some (.own ys) → σ[i]? ≠ some (some (.ref q))) : StOk (C.hide q) σ ρ F H z :=
  ⟨S.sub, S.f0, S.h0, S.nw, S.len, fun i v s e1 e2 => by
    have h := S.env i v s e1 e2
    cases s with
    | no => cases v <;> trivial
    | fr d =>
      cases v with
      | none => exact h.elim
      | some v => exact h
    | own ds =>
      cases v with
      | none => exact h.elim
      | some v =>
        obtain ⟨a, xs, rfl, ha, hf', h0, np', r, nh⟩ := h
        exact ⟨a, xs, rfl, ha, hf', h0, np', r, fun m => (List.mem_cons.mp m).elim (fun w => no i ds e2 (by rw [e1, w])) nh⟩, S.apart, S.pz, (fun b hb => by
    rcases List.mem_cons.mp hb with e | hb
    · subst e
      exact ⟨hf, ⟨o, hp⟩, np⟩
    · exact S.hd b hb), S.cs⟩
def sParOF (i j : Nat) (mo : E (List D)) (me : E D) : E Fl := eb mo fun ds => eb me fun d ρ Q _ z => Q .nx ((ρ.set i (.own ds)).set j (.fr d)) z
def sParFO (i j : Nat) (me : E D) (mo : E (List D)) : E Fl := eb me fun d => eb mo fun ds ρ Q _ z => Q .nx ((ρ.set i (.fr d)).set j (.own ds)) z
theorem xs_parFO (i j : Nat) {px py pt : Pos} {kt k2 pt2} {mo : E (List D)} {me : E D} (kx : Kx X C W k) (hi : X.N[i]? = some x) (hj : X.N[j]? = some y) (hij : i ≠ j)
    (hx : X.env.scope.names.lookup x = some .local) (hy : X.env.scope.names.lookup y = some .local) (ha : XE X C W a me) (hb : XO X C W b mo)
    (hw : swappedStores [.Tuple [.Name x px, .Name y py] kt pt] (.Tuple [a, b] k2 pt2) X.env = pure (some [x, y]))
    (hs : swapsWithSole [.Tuple [.Name x px, .Name y py] kt pt] (.Tuple [a, b] k2 pt2) pos.line X.env = pure false := by rfl) (hp : starEach (a :: [b]) X.env = (false, eval a X.env) :: starEach [b] X.env := by rfl) (h1 : S1 X b := by rfl) :
    XS X C W (.Assign [.Tuple [.Name x px, .Name y py] kt pt] (.Tuple [a, b] k2 pt2) pos) (sParFO i j me mo) := by
  obtain ⟨ta, a1, a2⟩ := ha.ex
  obtain ⟨tb, b1, b2⟩ := hb.ex
  refine ⟨_, ps_par kx.calm kx.nd hi hj hij hx hy (pa2 a1 b1 hp h1) hw hs, fun σ ρ F H z Qd Xd Dn S hm hq hxx => ?_⟩
  refine a2 σ ρ F H z _ Xd (fun u H1 => tb σ H1 fun v H2 => ∃ v' w', ([u, v] : List V) = [v', w'] ∧ Dn.nx ((σ.set i (some v')).set j (some w')) H2) S hm (fun d ρ1 z1 u F1 H1 q1 S1 ff1 k1 o1 r1 => ?_) (fun e ρ' z' cls dd F' H' q S' ff r => hxx e ρ' z' cls dd σ F' H' q S' ff r)
  refine b2 σ ρ1 F1 H1 z1 _ Xd _ S1 q1 (fun ds ρ2 z2 v F2 H2 q2 S2 ff2 k2 o2 ⟨q, xs, e1, e2, e3, e4, e5, e6⟩ => ?_) (fun e ρ' z' cls dd F' H' q S' ff r => hxx e ρ' z' cls dd σ F' H' q S' (ff1.trans ff) r)
  subst e1
  refine ⟨_, _, rfl, hq .nx _ z2 F2 H2 q2 (ff1.trans ff2) _ ?_⟩
  have Sf := S2.setF i (Rp.mono ff2 r1)
  refine Sf.setO j e2 e3 (S1.h0None e4 e5) e5 e6 (fun l ys g1 g2 => ?_) (S1.notHid e4)
  rcases get_set g1 with ⟨_, h, _⟩ | ⟨hne, h⟩
  · cases h
  · rw [List.getElem?_set_ne (Ne.symm hne)] at g2
    exact S1.notOwn e4 o2 l ys h g2
end
@[simp] theorem sAug_a (f : Int → Int → Int) (i : Nat) (m : E D) (t : Sl) (ρ : Rho) (Q : Fl → Rho → Zs → Prop) (X : Er → Rho → Zs → Prop) (z : Zs) : sAug f i m (t :: ρ) Q X z = (match (t :: ρ)[i]? with
  | some (.fr (.int a)) => m (t :: ρ) (fun d ρ' z' => match d with
    | .int b => Q .nx (ρ'.set i (.fr (.int (f a b)))) z'
    | _ => False) X z
  | _ => False) := propext Iff.rfl
@[simp] theorem sParOF_a (i j : Nat) (mo : E (List D)) (me : E D) (ρ : Rho) (Q : Fl → Rho → Zs → Prop) (X : Er → Rho → Zs → Prop) (z : Zs) : sParOF i j mo me ρ Q X z = mo ρ (fun ds ρ1 z1 => me ρ1 (fun d ρ2 z2 => Q .nx ((ρ2.set i (.own ds)).set j (.fr d)) z2) X z1) X z := propext Iff.rfl
@[simp] theorem sParFO_a (i j : Nat) (mo : E (List D)) (me : E D) (ρ : Rho) (Q : Fl → Rho → Zs → Prop) (X : Er → Rho → Zs → Prop) (z : Zs) : sParFO i j me mo ρ Q X z = me ρ (fun d ρ1 z1 => mo ρ1 (fun ds ρ2 z2 => Q .nx ((ρ2.set i (.fr d)).set j (.own ds)) z2) X z1) X z := propext Iff.rfl

/-! ## [..] * n -/
def fRep : D → D → E (List D)
  | .lst ds, .int k => fun ρ Q _ z => (-(2 ^ 63) ≤ k ∧ k < 2 ^ 63 ∧ ds.length * k.toNat ≤ 16777216) ∧ Q (List.replicate k.toNat ds).flatten ρ z
  | _, _ => eStuck
abbrev bM (ma mb : E D) : E (List D) := eb ma fun x => eb mb fun y => fRep x y
theorem RpL.rep {K : PySem.W.Frag} {mg : Str → Option Value} {pa : Option Addr} {F : Hp} {vs : List V} {ds : List D} (h : RpL K mg pa F vs ds) : ∀ n : Nat, RpL K mg pa F (List.replicate n vs).flatten (List.replicate n ds).flatten
  | 0 => .nil
  | n + 1 => by
    rw [List.replicate_succ, List.replicate_succ, List.flatten_cons, List.flatten_cons]
    exact RpL.append h (RpL.rep h n)
@[simp] theorem fRep_1 (ds : List D) (k : Int) (ρ : Rho) (Q : List D → Rho → Zs → Prop) (X : Er → Rho → Zs → Prop) (z : Zs) : fRep (.lst ds) (.int k) ρ Q X z = ((-(2 ^ 63) ≤ k ∧ k < 2 ^ 63 ∧ ds.length * k.toNat ≤ 16777216) ∧ Q (List.replicate k.toNat ds).flatten ρ z) := propext Iff.rfl

/-! ## the same where the names are no plain locals: a tuple is laid and taken apart -/
section
variable {X : Cx} {C : CC} {W : WX} {a b : Expr} {pos : Pos} {k : Nat} {x y : Str}
theorem xs_parFO2 (i j : Nat) {px py pt : Pos} {kt k2 pt2} {mo : E (List D)} {me : E D} (kx : Kx X C W k) (hgi : PG X (.Name x px) (gName i)) (hgj : PG X (.Name y py) (gName j)) (hij : i ≠ j) (ha : XE X C W a me) (hb : XO X C W b mo)
    (hw : swappedStores [.Tuple [.Name x px, .Name y py] kt pt] (.Tuple [a, b] k2 pt2) X.env = pure none)
    (hs : swapsWithSole [.Tuple [.Name x px, .Name y py] kt pt] (.Tuple [a, b] k2 pt2) pos.line X.env = pure false := by rfl) (hp : starEach (a :: [b]) X.env = (false, eval a X.env) :: starEach [b] X.env := by rfl) (h1 : S1 X b := by rfl)
    (g1 : (assignEach [.Name x px, .Name y py] X.env).map (·.2) = assign (.Name x px) X.env :: (assignEach [.Name y py] X.env).map (·.2) := by rfl) (g2 : (assignEach [.Name y py] X.env).map (·.2) = assign (.Name y py) X.env :: (assignEach [] X.env).map (·.2) := by rfl)
    (hn : (assignEach [.Name x px, .Name y py] X.env).length = 2 := by rfl) (hst : (assignEach [.Name x px, .Name y py] X.env).findIdx? (·.1) = none := by rfl)
    (ht : (assignEach [.Tuple [.Name x px, .Name y py] kt pt] X.env).map (·.2) = [assign (.Tuple [.Name x px, .Name y py] kt pt) X.env] := by rfl) :
    XS X C W (.Assign [.Tuple [.Name x px, .Name y py] kt pt] (.Tuple [a, b] k2 pt2) pos) (sParFO i j me mo) := by
  obtain ⟨ta, a1, a2⟩ := ha.ex
  obtain ⟨tb, b1, b2⟩ := hb.ex
  refine ⟨_, ps_asg (pe_tup (pa2 a1 b1 hp h1)) (pg_tup kx.calm (pgs_cons hgi (pgs_cons hgj pgs_nil g2) g1) hn hst) hs hw ht, fun σ ρ F H z Qd Xd Dn S hm hq hxx => ?_⟩
  refine a2 σ ρ F H z _ Xd _ S hm (fun d ρ1 z1 u F1 H1 q1 S1 ff1 k1 o1 r1 => ?_) (fun e ρ' z' cls dd F' H' q S' ff r => hxx e ρ' z' cls dd σ F' H' q S' ff r)
  refine b2 σ ρ1 F1 H1 z1 _ Xd _ S1 q1 (fun ds ρ2 z2 v F2 H2 q2 S2 ff2 k2 o2 ⟨q, xs, e1, e2, e3, e4, e5, e6⟩ => ?_) (fun e ρ' z' cls dd F' H' q S' ff r => hxx e ρ' z' cls dd σ F' H' q S' (ff1.trans ff) r)
  subst e1
  refine ⟨by show 2 ≤ sizeLine; rw [sizeLine_eq]; omega, fun t ht0 => ?_⟩
  have ne : q ≠ t := fun w => by rw [w, ht0] at e2; cases e2
  refine ⟨t, [u, .ref q], rfl, .inl (.inl upd_same), rfl, u, [.ref q], rfl, .ref q, [], rfl, rfl, ?_⟩
  have S3 := S2.newH (o := .tup [u, .ref q]) ht0
  have Sf := S3.setF i (Rp.mono ff2 r1)
  refine hq .nx _ z2 F2 _ q2 (ff1.trans ff2) _ (Sf.setO j (by rw [upd_ne ne]; exact e2) e3 (S1.h0None e4 e5) e5 e6 (fun l ys g1 g2 => ?_) (S1.notHid e4))
  rcases get_set g1 with ⟨_, h, _⟩ | ⟨hne, h⟩
  · cases h
  · rw [List.getElem?_set_ne (Ne.symm hne)] at g2
    exact S1.notOwn e4 o2 l ys h g2
end
end DL

namespace DL
open PySem PySem.Spec PyProof.Rows L2

/-! ## a call that only reads one's own lists: what was frozen for it is taken back -/
mutual
def D.noL : D → Bool
  | .lst _ => false
  | .scr _ => false
  | .mc _ => false
  | .tup ds => noLL ds
  | .ins _ _ ds => noLL ds
  | .dic _ ds => noLL ds
  | .exn _ _ _ e => e.noL
  | _ => true
def noLL : List D → Bool
  | [] => true
  | d :: r => d.noL && noLL r
end
open Classical in
noncomputable def cutF (P : Addr → Prop) (F : Hp) : Hp := fun b => if P b then none else F b
section
variable {K : PySem.W.Frag} {mg : Str → Option Value} {pa : Option Addr} {F H : Hp} {P : Addr → Prop}
theorem cutF_in {a : Addr} {o : HO} (sub : Sub F H) (hP : ∀ b, P b → ∃ xs, H b = some (.lst xs)) (h : F a = some o) (g : NG o) (n : ∀ xs, o ≠ .lst xs) : cutF P F a = some o := by
  unfold cutF
  rw [if_neg fun p => ?_]
  · exact h
  · obtain ⟨xs, e⟩ := hP a p
    have := sub _ _ h g
    rw [e] at this
    cases this
    exact n xs rfl
theorem cutF_rd {a : Addr} {u : HO} (sub : Sub F H) (hP : ∀ b, P b → ∃ xs, H b = some (.lst xs)) (g : NG u) (n : ∀ xs, u ≠ .lst xs) (h : Rd F a u) : Rd (cutF P F) a u := by
  rcases h with h | ⟨o, h⟩
  · exact .inl (cutF_in sub hP h g n)
  · exact .inr ⟨o, cutF_in sub hP h (fun _ e => by cases e) (fun _ e => by cases e)⟩
mutual
theorem Rp.rl (sub : Sub F H) (hP : ∀ b, P b → ∃ xs, H b = some (.lst xs)) : ∀ {d : D} {v : V}, d.noL = true → Rp K mg pa F v d → Rp K mg pa (cutF P F) v d
  | .non, _, _, h => by cases h; exact .non
  | .bl _, _, _, h => by cases h; exact .bl _
  | .int _, _, _, h => by cases h; exact .int _
  | .str _, _, _, h => by cases h; exact .str _
  | .lst _, _, c, _ => by cases c
  | .tup _, _, c, h => by cases h with | tup e r => exact .tup (e.elim (fun w => .inl (cutF_rd sub hP ngT (fun _ q => by cases q) w)) .inr) (RpL.rl sub hP c r)
  | .cel, _, _, h => by cases h with | cel e => exact .cel e
  | .ins _ _ _, _, c, h => by cases h with | ins g e l r => exact   .ins g (cutF_in sub hP e ngI (fun _ q => by cases q)) l (RpL.rl sub hP c r)
  | .dic _ _, _, c, h => by cases h with | dic e l r => exact .dic (cutF_rd sub hP ngD (fun _ q => by cases q) e) l (RpL.rl sub hP c r)
  | .exn _ _ _ _, _, c, h => by cases h with | exn e r => exact .exn (cutF_in sub hP e ngX (fun _ q => by cases q)) (Rp.rl sub hP c r)
  | .scr _, _, c, _ => by cases c
  | .mc _, _, c, _ => by cases c
theorem RpL.rl (sub : Sub F H) (hP : ∀ b, P b → ∃ xs, H b = some (.lst xs)) : ∀ {ds : List D} {vs : List V}, noLL ds = true → RpL K mg pa F vs ds → RpL K mg pa (cutF P F) vs ds
  | [], _, _, h => by cases h; exact .nil
  | d :: r, _, c, h => by
    obtain ⟨c1, c2⟩ := Bool.and_eq_true_iff.mp (show (d.noL && noLL r) = true from c)
    cases h with | cons a b => exact .cons (Rp.rl sub hP c1 a) (RpL.rl sub hP c2 b)
end
end
section
variable {C : CC} {W : WX} {X : Cx} {e : Expr} {σ : L2.St} {ρ ρ' : Rho} {F F' H H' : Hp} {z z' : Zs}
/-- where the own lists lie -/
def OwnA (σ : L2.St) (ρ : Rho) (b : Addr) : Prop := ∃ (i : Nat) (ds : List D), ρ[i]? = some (.own ds) ∧ σ[i]? = some (some (.ref b))
end
def eRoll (m : E D) : E D := fun ρ Q X z => m ρ (fun d _ z' => (d.noL = true ∧ z'.cs = []) ∧ Q d ρ z') X z
def eRollO (m : E (List D)) : E (List D) := fun ρ Q X z => m ρ (fun d _ z' => (noLL d = true ∧ z'.cs = []) ∧ Q d ρ z') X z
section
variable {C : CC} {W : WX} {X : Cx} {e : Expr}
end
section
variable (m : E D) (mo : E (List D)) (ρ : Rho) (Q : D → Rho → Zs → Prop) (Ql : List D → Rho → Zs → Prop) (X : Er → Rho → Zs → Prop) (z : Zs)
@[simp] theorem eRoll_a : eRoll m ρ Q X z = m ρ (fun d _ z' => (d.noL = true ∧ z'.cs = []) ∧ Q d ρ z') X z := propext Iff.rfl
@[simp] theorem eRollO_a : eRollO mo ρ Ql X z = mo ρ (fun d _ z' => (noLL d = true ∧ z'.cs = []) ∧ Ql d ρ z') X z := propext Iff.rfl
@[simp] theorem noL_1 (i : Int) : (D.int i).noL = true := by unfold D.noL; exact Eq.refl _
@[simp] theorem noL_2 (i : Bool) : (D.bl i).noL = true := by unfold D.noL; exact Eq.refl _
@[simp] theorem noL_3 (i : Str) : (D.str i).noL = true := by unfold D.noL; exact Eq.refl _
@[simp] theorem noL_4 : D.non.noL = true := by unfold D.noL; exact Eq.refl _
@[simp] theorem noL_5 (ds : List D) : (D.tup ds).noL = noLL ds := by rw [D.noL]
@[simp] theorem noLL_1 : noLL [] = true := by unfold noLL; exact Eq.refl _
@[simp] theorem noLL_2 (d : D) (ds : List D) : noLL (d :: ds) = (d.noL && noLL ds) := by rw [noLL]
end
end DL

namespace DL
open PySem PySem.Spec PyProof.Rows L2

/-! ## isinstance(e, (c1, c2, ..)) of the error that the suite holds -/
section
variable {X : Cx} {C : CC} {W : WX} {cv : Value} {n x : Str} {np p pos tpos : Pos}
def tCs : List V → TA
  | [] => tNil
  | y :: ys => tCons (tC y) (tCs ys)
/-- the tables of the classes, one behind another -/
def orT : List (Str → Option Bool) → Str → Option Bool
  | [], _ => some false
  | t :: r, nm => match t nm with
    | some true => some true
    | some false => orT r nm
    | none => none
inductive ClX (X : Cx) (A : Addr) (nm : Str) : List Expr → List (Str → Option Bool) → List V → List Value → Prop
  | nil : ClX X A nm [] [] [] []
  | cons {e : Expr} {t : Str → Option Bool} {y : V} {cv : Value} {es ts ys cvs} : (∀ b, t nm = some b → PySem.W.kitOne X.K (.ref A) cv = some b) → PE X e (tC y) → (∀ u, RelV y u → u = cv) → starEach (e :: es) X.env = (false, eval e X.env) :: starEach es X.env → ClX X A nm es ts ys cvs → ClX X A nm (e :: es) (t :: ts) (y :: ys) (cv :: cvs)
theorem ClX.pa {A : Addr} {nm : Str} : ∀ {es ts ys cvs}, ClX X A nm es ts ys cvs → PA X es (tCs ys)
  | _, _, _, _, .nil => pa_nil
  | _, _, _, _, .cons _ h2 _ h4 r => pa_cons h2 r.pa h4
theorem ClX.vals {A : Addr} {nm : Str} : ∀ {es ts ys cvs} {ws : List Value}, ClX X A nm es ts ys cvs → Vals ys ws → ws = cvs
  | _, _, _, _, _, .nil, .nil => rfl
  | _, _, _, _, _, .cons _ _ h3 _ r, .cons a b => by rw [h3 _ a, r.vals b]
theorem ClX.any {A : Addr} {nm : Str} : ∀ {es ts ys cvs} {b : Bool}, ClX X A nm es ts ys cvs → orT ts nm = some b → PySem.W.kitAny X.K (.ref A) cvs = some b
  | _, _, _, _, b, .nil, h => by cases h; rfl
  | _, _, _, _, b, .cons (t := t) h1 _ _ _ r, h => by
    unfold orT at h
    cases e : t nm with
    | none => rw [e] at h; cases h
    | some b' =>
      rw [e] at h
      have k := h1 b' e
      cases b' with
      | true => cases h; exact kitAny_cons k (fun q => nomatch q) fun _ => rfl
      | false => exact kitAny_cons k (fun _ => r.any h) fun q => nomatch q
theorem ClX.len {A : Addr} {nm : Str} : ∀ {es ts ys cvs}, ClX X A nm es ts ys cvs → ys.length = es.length
  | _, _, _, _, .nil => rfl
  | _, _, _, _, .cons _ _ _ _ r => by simp [r.len]
def rIsXT (K : PySem.W.Frag) (A a dx : Addr) (ys : List V) (P : List Value → Prop) : R2 := fun x y H Q => ∃ tp b, x = .ref a ∧ y = .ref tp ∧ H tp = some (.tup ys) ∧ (∃ fs, H dx = some (.xd fs)) ∧ (∀ ws, Vals ys ws → PySem.W.kitAny K (.ref A) ws = some b) ∧ Q (.bl b) H
def fSort : D → E (List D)
  | .lst ds => fun ρ Q _ z => ∃ ns, intsOf ds = some ns ∧ ns.length < 64 ∧ ∀ ns' : List Int, ns'.Perm ns → ns'.Pairwise (· ≤ ·) → Q (ns'.map .int) ρ z
  | _ => eStuck
end
@[simp] theorem fSort_1 (ds : List D) (ρ : Rho) (Q : List D → Rho → Zs → Prop) (X : Er → Rho → Zs → Prop) (z : Zs) : fSort (.lst ds) ρ Q X z = ∃ ns, intsOf ds = some ns ∧ ns.length < 64 ∧ ∀ ns' : List Int, ns'.Perm ns → ns'.Pairwise (· ≤ ·) → Q (ns'.map .int) ρ z := propext Iff.rfl
/-! ## repr(x), x a truth, too -/
def bStr (b : Bool) : Str := if b then "True" else "False"
def dReprX : P1
  | .bl b, Q => Q (.str (bStr b))
  | d, Q => dRepr d Q
def rReprX (K : PySem.W.Frag) : List V → Hp → VK → Prop := fun xs H Q => (∃ b, xs = [V.bl b] ∧ Q (.str (bStr b)) H) ∨ rRepr K xs H Q
section
variable {X : Cx} {C : CC} {W : WX} {p pos : Pos}
end
@[simp] theorem dReprX_1 (ds : List D) (Q : D → Prop) : dReprX (.lst ds) Q = (reprOk (.lst ds) ∧ Q (.str (D.lst ds).py.shown)) := propext Iff.rfl
@[simp] theorem dReprX_2 (ds : List D) (Q : D → Prop) : dReprX (.tup ds) Q = (reprOk (.tup ds) ∧ Q (.str (D.tup ds).py.shown)) := propext Iff.rfl
@[simp] theorem dReprX_3 (b : Bool) (Q : D → Prop) : dReprX (.bl b) Q = Q (.str (bStr b)) := propext Iff.rfl
section
variable {X : Cx} {C : CC} {W : WX} {e : Expr} {m : E D} {x : Str} {p p1 p2 p3 pos : Pos}
end
end DL

namespace DL
open PySem PySem.Spec PyProof.Rows L2

/-! ## x.insert(i, y) -/
def insD (ds : List D) (k : Nat) (y : D) : List D := ds.take k ++ [y] ++ ds.drop k
def sIns (i : Nat) (ms : E (List D)) : E Fl := fun ρ Q X z => match ρ[i]? with
  | some (.own _) => ms ρ (fun as ρ' z' => match as, ρ'[i]? with
    | [.int k, y], some (.own ds) => (0 ≤ k ∧ k < 2 ^ 63 ∧ ds.length < 16777216) ∧ Q .nx (ρ'.set i (.own (insD ds k.toNat y))) z'
    | _, _ => False) X z
  | _ => False
section
variable {X : Cx} {C : CC} {W : WX} {a b : Expr} {ms : E (List D)} {x : Str} {p p1 p2 p3 : Pos}
end
@[simp] theorem sIns_a (i : Nat) (ms : E (List D)) (t : Sl) (ρ : Rho) (Qf : Fl → Rho → Zs → Prop) (X : Er → Rho → Zs → Prop) (z : Zs) : sIns i ms (t :: ρ) Qf X z = (match (t :: ρ)[i]? with
  | some (.own _) => ms (t :: ρ) (fun as ρ' z' => match as, ρ'[i]? with
    | [.int k, y], some (.own ds) => (0 ≤ k ∧ k < 2 ^ 63 ∧ ds.length < 16777216) ∧ Qf .nx (ρ'.set i (.own (insD ds k.toNat y))) z'
    | _, _ => False) X z
  | _ => False) := propext Iff.rfl
/-! ## xs[::-1] -/
def fRevL : D → E (List D)
  | .lst ds => ep ds.reverse
  | _ => eStuck
section
variable {X : Cx} {C : CC} {W : WX} {e : Expr} {m : E D} {k : Nat} {p1 p2 p3 pos : Pos}
end
@[simp] theorem fRevL_1 (ds : List D) : fRevL (.lst ds) = ep ds.reverse := funext fun _ => rfl
end DL

namespace DL
open PySem PySem.Spec PyProof.Rows L2

/-! ## the head's facts with tables of text keys, and getters of properties -/
/-- where the getter of class p.1's property p.2 stands -/
def getAd (K : PySem.W.Frag) (p : Str × Option Str) : Addr := match PySem.W.recIn K (He.ma K (He.ga K p.1) (p.2.getD Str.empty)) "property" with
  | some (.ref g :: _) => g
  | _ => 0
def fnWA (K : PySem.W.Frag) (a : Addr) : He.FnW := match K.lookup a with
  | some o => (match o.data with
    | .func g => some (g.name, g.qualname, g.params, g.body, g.scope, g.globals, g.closure, g.builtins)
    | _ => none)
  | none => none
def okA (K : PySem.W.Frag) (d : He.DefD) (a : Addr) : Bool := PySem.W.keepIn K (.ref a) && match K.lookup a with
  | some o => (match o.data with
    | .func g => (PySem.W.codeIn K g.code d.qual && He.dflB K g.defaults (d.dvs K)) && He.kwdB K g.kwdefaults (d.kws K)
    | _ => false)
  | none => false
theorem getter_ok {K : PySem.W.Frag} {d : He.DefD} {a : Addr} (h1 : fnWA K a = d.val) (h2 : okA K d a = true) : ∃ fd, FunD K d.name d.qual d.params d.body d.scope (d.dvs K) (d.kws K) a fd := by
  have hs := He.ba h2
  have r2 := hs.2
  unfold fnWA at h1
  cases e : K.lookup a with
  | none => rw [e] at r2; exact Bool.noConfusion r2
  | some o =>
    rw [e] at h1 r2
    rcases o with ⟨o1, o2, o3, o4⟩
    cases o3 with
    | func g =>
      rcases g with ⟨a1, a2, a3, a4, a5, a6, a7, a8, a9, b1, b2, b3, b4, b5, b6⟩
      injection h1 with h1
      injection h1 with p1 h1
      injection h1 with p2 h1
      injection h1 with p3 h1
      injection h1 with p4 h1
      injection h1 with p5 h1
      injection h1 with p6 h1
      injection h1 with p7 p8
      subst p1; subst p2; subst p3; subst p4; subst p5; subst p6; subst p7; subst p8
      have r3 := He.ba r2
      have r4 := He.ba r3.1
      refine ⟨_, ⟨o1, o2, a8, a9, b1, b2, b3, b4, b5, o4, rfl, e, r4.1, He.dflB_ok r4.2, He.kwdB_ok r3.2⟩, hs.1⟩
    | _ => exact Bool.noConfusion r2
def propB (K : PySem.W.Frag) (x f : Str) : Bool :=
  (He.eqO (PySem.W.findIn K (.ref (He.ga K x)) f) (some (some (.ref (He.ma K (He.ga K x) f)))) && He.eqO (PySem.W.specialIn K (.ref (He.ma K (He.ga K x) f)) "__get__") (some (some (.builtin "property.__get__")))) &&
  (decide (PySem.W.takesIn K (.ref (He.ma K (He.ga K x) f)) = some true) && match PySem.W.recIn K (He.ma K (He.ga K x) f) "property" with
    | some (.ref _ :: _) => true
    | _ => false)
theorem propB_ok {K : PySem.W.Frag} {x f : Str} (h : propB K x f = true) : PropOf K (He.ga K x) f (He.ma K (He.ga K x) f) (getAd K (x, some f)) := by
  have h1 := He.ba h
  have h2 := He.ba h1.1
  have h3 := He.ba h1.2
  refine ⟨He.eqO_ok h2.1, He.eqO_ok h2.2, of_decide_eq_true h3.1, ?_⟩
  have h4 := h3.2
  unfold getAd
  show ∃ rest, PySem.W.recIn K (He.ma K (He.ga K x) f) "property" = _
  dsimp only [Option.getD]
  split at h4
  · rename_i g r e
    rw [e]
    exact ⟨r, rfl⟩
  · exact Bool.noConfusion h4
abbrev AlF : Type := (He.AlT × List He.FnW) × Bool
def obsK (fa : List He.Fa) (fn : List He.DefD) (ts : List He.Tab) (gs : List He.DefD) (ex : PySem.W.Frag → Bool) (K : PySem.W.Frag) : AlF :=
  ((He.obsT fa fn ts K, gs.map fun d => fnWA K (getAd K d.at_)), ex K && gs.all fun d => okA K d (getAd K d.at_))
/-! addresses that are reached, each once: in one pass (a long list of them is dear to the kernel) -/
def pickA (a : List Addr × Nat) (x : Addr) : List Addr × Nat := match Nat.testBit a.2 x with
  | true => a
  | false => (x :: a.1, a.2 ||| (1 <<< x))
def bfsA (g : Addr → Option Obj) : Nat → List Addr → Nat → List Addr
  | 0, front, _ => front
  | n + 1, front, seen => match (front.flatMap fun a => match g a with
    | some o => He.refsD o
    | none => []).foldl pickA ([], seen) with
    | (new, seen') => front ++ bfsA g n new seen'
def asM (g : Addr → Option Obj) (n : Nat) : List Addr := bfsA g n [mainGlobals] (1 <<< mainGlobals)
def obsF (n : Nat) (fa : List He.Fa) (fn : List He.DefD) (ts : List He.Tab) (gs : List He.DefD) (ex : PySem.W.Frag → Bool) (g : Addr → Option Obj) : AlF := obsK fa fn ts gs ex (He.frG g (PySem.cStatics :: asM g n))
def SaysF (fa : List He.Fa) (fn : List He.DefD) (ts : List He.Tab) (gs : List He.DefD) (ex : PySem.W.Frag → Bool) (w : World) (K : PySem.W.Frag) : Prop :=
  He.SaysD fa fn K ∧ ex K = true ∧ He.SaysT fa fn ts w K ∧ (gs.map fun d => fnWA K (getAd K d.at_)) = gs.map He.DefD.val ∧ (gs.all fun d => okA K d (getAd K d.at_)) = true
theorem says_of {fa : List He.Fa} {fn : List He.DefD} {ts : List He.Tab} {gs : List He.DefD} {ex : PySem.W.Frag → Bool} {w : World} {K : PySem.W.Frag} (e : obsK fa fn ts gs ex K = ((He.valT fn ts w, gs.map He.DefD.val), true)) : SaysF fa fn ts gs ex w K := by
  have e1 := congrArg (fun z : AlF => z.1.1) e
  have e2 := congrArg (fun z : AlF => z.1.2) e
  have e3 := He.ba (congrArg (fun z : AlF => z.2) e)
  exact ⟨He.SaysT.d e1, e3.1, e1, e2, e3.2⟩
def hookF (n : Nat) (fa : List He.Fa) (fn : List He.DefD) (ts : List He.Tab) (gs : List He.DefD) (ex : PySem.W.Frag → Bool) : PySem.W.Hook where
  α := AlF
  obs := fun s => obsF n fa fn ts gs ex s.heap.get?
  val := fun w => ((He.valT fn ts w, gs.map He.DefD.val), true)
  says := fun w h => ∃ K : PySem.W.Frag, K.In h ∧ SaysF fa fn ts gs ex w K
  of := fun _ _ e => ⟨_, He.frG_in, says_of e⟩
  keeps := fun _ _ _ ⟨K, hK, c⟩ k => ⟨K, PySem.W.Frag.In.keeps hK k, c⟩
theorem obsF_eq {n : Nat} {fa : List He.Fa} {fn : List He.DefD} {ts : List He.Tab} {gs : List He.DefD} {ex : PySem.W.Frag → Bool} {g : Addr → Option Obj} {s : Shared} (h : ∀ a, g a = s.heap.get? a) : obsF n fa fn ts gs ex g = (hookF n fa fn ts gs ex).obs s := by
  have e : g = s.heap.get? := funext h
  rw [e] <;> rfl
theorem SaysF.get {fa : List He.Fa} {fn : List He.DefD} {ts : List He.Tab} {gs : List He.DefD} {ex : PySem.W.Frag → Bool} {w : World} {K : PySem.W.Frag} (c : SaysF fa fn ts gs ex w K) (i : Nat) {d : He.DefD} (h : gs[i]? = some d) :
    ∃ fd, FunD K d.name d.qual d.params d.body d.scope (d.dvs K) (d.kws K) (getAd K d.at_) fd := by
  obtain ⟨_, _, _, e, a⟩ := c
  have e2 : (gs.map fun d => fnWA K (getAd K d.at_))[i]? = (gs.map He.DefD.val)[i]? := by rw [e]
  rw [List.getElem?_map, List.getElem?_map, h] at e2
  exact getter_ok (Option.some.inj e2) (List.all_eq_true.mp a d (List.mem_of_getElem? h))
/-! the run's looks, in two parts -/
section
open PySem.W PySem.Calls HandSHeadRun
def runLS (r : OpenRow) (q : Program) (loose : List PySem.Str) (M : Nat) (w : World) : Prop := ∀ os : OsState, (endF (stepQ (denQ tabQ) r.prog w) M r.prog w os).map (fun s => (looksF r.prog (boot_heap w.params) s.abs, seenQ q loose (importedModules r.prog.main.body) (fun s => xlAt q [] s && recOk r.toRowW.records s) s.abs)) = some (true, openGood q loose)
def runOb (r : OpenRow) (H : Hook) (ob : SharedT → H.α) (M : Nat) (w : World) : Prop := ∀ os : OsState, (endF (stepQ (denQ tabQ) r.prog w) M r.prog w os).map ob = some (H.val w)
theorem run_of2 {r : OpenRow} {q : Program} {H : Hook} {ob : SharedT → H.α} {M : Nat} {loose : List PySem.Str} {w : World} (h1 : runLS r q loose M w) (h3 : runOb r H ob M w) : RunEq r q H ob M loose w := fun os => by
  have a := h1 os
  have c := h3 os
  cases e : endF (stepQ (denQ tabQ) r.prog w) M r.prog w os with
  | none => rw [e] at a; cases a
  | some s =>
    rw [e] at a c
    have a' := Option.some.inj a
    have c' := Option.some.inj c
    have a1 := congrArg Prod.fst a'
    have a2 := congrArg Prod.snd a'
    show some (_, _, _) = some (_, _, _)
    exact congrArg some (Prod.ext a1 (Prod.ext a2 c'))
end
end DL

namespace DL
open PySem PySem.Spec PyProof.Rows L2

/-! ## constants of the module -/
def relF : Value → D → Bool
  | .int j _, .int i => decide (j = i)
  | .str y _, .str x => decide (y = x)
  | .bool b, .bl c => decide (b = c)
  | .none, .non => true
  | _, _ => false
theorem relF_ok {u : Value} {d : D} (h : relF u d = true) : ∃ v, RelV v u ∧ ∀ K mg pa F, Rp K mg pa F v d := by
  cases u <;> cases d <;> first | exact Bool.noConfusion h | skip
  · exact ⟨.non, rfl, fun _ _ _ _ => .non⟩
  · cases of_decide_eq_true h; exact ⟨.bl _, rfl, fun _ _ _ _ => .bl _⟩
  · cases of_decide_eq_true h; exact ⟨.int _, ⟨_, rfl⟩, fun _ _ _ _ => .int _⟩
  · cases of_decide_eq_true h; exact ⟨.str _, ⟨_, rfl⟩, fun _ _ _ _ => .str _⟩
def relFs : List Value → List D → Bool
  | [], [] => true
  | u :: us, d :: ds => relF u d && relFs us ds
  | _, _ => false
theorem relFs_ok : ∀ {us : List Value} {ds : List D}, relFs us ds = true → ∃ vs, Vals vs us ∧ ∀ K mg pa F, RpL K mg pa F vs ds
  | [], [], _ => ⟨[], .nil, fun _ _ _ _ => .nil⟩
  | [], _ :: _, h => Bool.noConfusion h
  | _ :: _, [], h => Bool.noConfusion h
  | u :: us, d :: ds, h => by
    have h1 := He.ba (show (relF u d && relFs us ds) = true from h)
    obtain ⟨v, r, q⟩ := relF_ok h1.1
    obtain ⟨vs, rs, qs⟩ := relFs_ok h1.2
    exact ⟨v :: vs, .cons r rs, fun K mg pa F => .cons (q K mg pa F) (qs K mg pa F)⟩
def relT (K : PySem.W.Frag) : Value → D → Bool
  | .ref a, .tup ds => (match K.lookup a with
    | some ⟨.type c, _, .seq its _, _⟩ => (decide (c = "tuple") && decide (its.size ≤ sizeLine)) && relFs its.toList ds
    | _ => false)
  | u, d => relF u d
theorem relT_ok {K : PySem.W.Frag} {u : Value} {d : D} (h : relT K u d = true) : ∃ v, RelV v u ∧ ∀ mg pa F, Rp K mg pa F v d := by
  unfold relT at h
  split at h
  · rename_i a ds
    split at h
    · rename_i c od its n sl e
      have h1 := He.ba h
      have h2 := He.ba h1.1
      obtain ⟨vs, rs, qs⟩ := relFs_ok h1.2
      exact ⟨.ref a, rfl, fun mg pa F => .tup (.inr ⟨_, its, n, e, congrArg Value.type (of_decide_eq_true h2.1), rfl, of_decide_eq_true h2.2, rs⟩) (qs K mg pa F)⟩
    · exact Bool.noConfusion h
  · obtain ⟨v, r, q⟩ := relF_ok h
    exact ⟨v, r, fun mg pa F => q K mg pa F⟩
/-- .. of such tuples, too -/
def relTs (K : PySem.W.Frag) : List Value → List D → Bool
  | [], [] => true
  | u :: us, d :: ds => relT K u d && relTs K us ds
  | _, _ => false
theorem relTs_ok {K : PySem.W.Frag} : ∀ {us : List Value} {ds : List D}, relTs K us ds = true → ∃ vs, Vals vs us ∧ ∀ mg pa F, RpL K mg pa F vs ds
  | [], [], _ => ⟨[], .nil, fun _ _ _ => .nil⟩
  | [], _ :: _, h => Bool.noConfusion h
  | _ :: _, [], h => Bool.noConfusion h
  | u :: us, d :: ds, h => by
    have h1 := He.ba (show (relT K u d && relTs K us ds) = true from h)
    obtain ⟨v, r, q⟩ := relT_ok h1.1
    obtain ⟨vs, rs, qs⟩ := relTs_ok h1.2
    exact ⟨v :: vs, .cons r rs, fun mg pa F => .cons (q mg pa F) (qs mg pa F)⟩
def relT2 (K : PySem.W.Frag) : Value → D → Bool
  | .ref a, .tup ds => (match K.lookup a with
    | some ⟨.type c, _, .seq its _, _⟩ => (decide (c = "tuple") && decide (its.size ≤ sizeLine)) && relTs K its.toList ds
    | _ => false)
  | u, d => relF u d
theorem relT2_ok {K : PySem.W.Frag} {u : Value} {d : D} (h : relT2 K u d = true) : ∃ v, RelV v u ∧ ∀ mg pa F, Rp K mg pa F v d := by
  unfold relT2 at h
  split at h
  · rename_i a ds
    split at h
    · rename_i c od its n sl e
      have h1 := He.ba h
      have h2 := He.ba h1.1
      obtain ⟨vs, rs, qs⟩ := relTs_ok h1.2
      exact ⟨.ref a, rfl, fun mg pa F => .tup (.inr ⟨_, its, n, e, congrArg Value.type (of_decide_eq_true h2.1), rfl, of_decide_eq_true h2.2, rs⟩) (qs mg pa F)⟩
    · exact Bool.noConfusion h
  · obtain ⟨v, r, q⟩ := relF_ok h
    exact ⟨v, r, fun mg pa F => q K mg pa F⟩
def gtupB (K : PySem.W.Frag) (x : Str) (d : D) : Bool := relT2 K (.ref (He.ga K x)) d
def ktabB (K : PySem.W.Frag) (a : Addr) (tb : List (Str × D)) : Bool := (tb.all fun q => match PySem.W.nsIn K a q.1 with
  | some (some u) => relT K u q.2
  | _ => false) && match K.lookup a with
  | some ⟨_, _, .dict es _, _⟩ => es.toList.all fun e => match e.key with
    | .str x _ => (tb.lookup x).isSome
    | _ => false
  | _ => false
theorem lookup_memD {z : Str} : ∀ {tb : List (Str × D)} {d : D}, tb.lookup z = some d → (z, d) ∈ tb
  | [], _, h => by cases h
  | (k, x) :: r, d, h => by
    rw [List.lookup_cons] at h
    split at h
    · rename_i e
      cases h
      have := beq_iff_eq.mp e
      subst this
      exact List.mem_cons_self
    · exact List.mem_cons_of_mem _ (lookup_memD h)
theorem ktab_some {K : PySem.W.Frag} {a : Addr} {tb : List (Str × D)} (h : ktabB K a tb = true) {z : Str} {d : D} (e : tb.lookup z = some d) : ∃ u v, PySem.W.nsIn K a z = some (some u) ∧ RelV v u ∧ ∀ mg pa F, Rp K mg pa F v d := by
  have h1 := List.all_eq_true.mp (He.ba h).1 _ (lookup_memD e)
  dsimp only at h1
  split at h1
  · rename_i u q
    obtain ⟨v, r, s⟩ := relT_ok h1
    exact ⟨u, v, q, r, s⟩
  · exact Bool.noConfusion h1
theorem ktab_none {K : PySem.W.Frag} {a : Addr} {tb : List (Str × D)} (h : ktabB K a tb = true) {z : Str} (e : tb.lookup z = none) : PySem.W.nsIn K a z = some none := by
  have h1 := (He.ba h).2
  split at h1
  · rename_i o1 o2 es n sl q
    unfold PySem.W.nsIn
    rw [q]
    have key : ∀ y ∈ es.toList, ∃ x t, y.key = .str x t ∧ x ≠ z := fun y hy => by
      have h2 := List.all_eq_true.mp h1 y hy
      split at h2
      · rename_i x t w
        refine ⟨x, t, w, fun g => ?_⟩
        rw [g, e] at h2
        exact Bool.noConfusion h2
      · exact Bool.noConfusion h2
    have n1 : es.toList.find? (fun x => x.key.isStr z) = none := by
      rw [List.find?_eq_none]
      intro y hy
      obtain ⟨x, t, w, ne⟩ := key y hy
      rw [w]
      show ¬ ((x == z) = true)
      intro g
      exact ne (beq_iff_eq.mp g)
    have n2 : (es.toList.any fun x => x.refKey) = false := by
      rw [List.any_eq_false]
      intro y hy
      obtain ⟨x, t, w, ne⟩ := key y hy
      unfold DictEntry.refKey
      rw [w]
      intro g
      cases g
    dsimp only
    rw [n1, n2]
    rfl
  · exact Bool.noConfusion h1
def dKey (tb : List (Str × D)) : P1
  | .str z, Q => ∃ d, tb.lookup z = some d ∧ Q d
  | _, _ => False
def dInK (tb : List (Str × D)) : P1
  | .str z, Q => Q (.bl (tb.lookup z).isSome)
  | _, _ => False
def dNotInK (tb : List (Str × D)) : P1
  | .str z, Q => Q (.bl (!(tb.lookup z).isSome))
  | _, _ => False
section
variable {X : Cx} {C : CC} {W : WX} {e a b : Expr} {m ma mb : E D} {pos p p1 p2 p3 : Pos} {k : Nat} {x : Str} {tb : List (Str × D)} {A : Addr} {pl pr : Pos}
theorem xe_gint {i : Int} (hg : Gl X x) (h : ∃ t, X.mg x = some (.int i t)) (hdb : (x == ("__debug__" : Str)) = false := by decide) : XE X C W (.Name x p) (ep (.int i)) := by
  obtain ⟨t, e⟩ := h
  exact xe_c (v := .int i) (pe_glob hg e ⟨t, rfl⟩ hdb) fun _ => .int i
theorem xe_gstr {i : Str} (hg : Gl X x) (h : ∃ t, X.mg x = some (.str i t)) (hdb : (x == ("__debug__" : Str)) = false := by decide) : XE X C W (.Name x p) (ep (.str i)) := by
  obtain ⟨t, e⟩ := h
  exact xe_c (v := .str i) (pe_glob hg e ⟨t, rfl⟩ hdb) fun _ => .str i
theorem xe_gtup {d : D} {y : Str} (hK : X.K = C.K) (hg : Gl X x) (h : X.mg x = some (.ref (He.ga X.K y))) (hd : gtupB X.K y d = true) (hdb : (x == ("__debug__" : Str)) = false := by decide) : XE X C W (.Name x p) (ep d) := by
  obtain ⟨v, r, q⟩ := relT2_ok hd
  refine xe_c (v := v) (pe_glob hg h r hdb) fun F => ?_
  have := q C.mg C.pa F
  rw [hK] at this
  exact this
theorem xe_tab (hK : X.K = C.K) (kd : ∃ es n, KDict X.K X.w A es n) (ht : ktabB X.K A tb = true) (hg : Gl X x) (hm : X.mg x = some (.ref A)) (hb : XP X C W b mb) (hs : PlainIx b) (hdb : (x == ("__debug__" : Str)) = false := by decide) :
    XE X C W (.Subscript (.Name x p) b pos) (eb mb fun y => eP (dKey tb y)) := by
  obtain ⟨t, h1, h2⟩ := hb.ex
  obtain ⟨es, n, D⟩ := kd
  refine ⟨_, pe_ix ix_kdict (pe_glob (v := .ref A) hg hm rfl hdb) h1 hs, ?_⟩
  refine den_un (r := fun y H Q => rIxD X.K X.w (.ref A) y H Q) back_R h2 (op1_flat fun F H y dy Q Qd s ry hp hq => ?_)
  unfold dKey at hp
  split at hp
  · obtain ⟨d, e1, q⟩ := hp
    obtain ⟨u, v, g1, g2, g3⟩ := ktab_some ht e1
    refine ⟨A, _, v, rfl, ry.str, ⟨es, n, u, D.at_, D.lit, g1, g2⟩, hq _ _ q ?_⟩
    have := g3 C.mg C.pa F
    rw [hK] at this
    exact this
  · exact False.elim hp
theorem o_notInK (kd : ∃ es n, KDict X.K X.w A es n) (ht : ktabB X.K A tb = true) : ∃ es n, KDict X.K X.w A es n ∧ Op1 C W (fun y H Q => ∃ (z : Str) (r : Option Value), y = V.str z ∧ V.ref A = V.ref A ∧ PySem.W.nsIn X.K A z = some r ∧ Q (V.bl (!r.isSome)) H) (fun y => eP (dNotInK tb y)) (kR C) := by
  obtain ⟨es, n, D⟩ := kd
  refine ⟨es, n, D, op1_flat fun F H y dy Q Qd s ry hp hq => ?_⟩
  unfold dNotInK at hp
  split at hp
  · rename_i z
    cases e1 : tb.lookup z with
    | none =>
      rw [e1] at hp
      exact ⟨z, none, ry.str, rfl, ktab_none ht e1, hq _ _ hp (.bl _)⟩
    | some d =>
      rw [e1] at hp
      obtain ⟨u, v, g1, _, _⟩ := ktab_some ht e1
      exact ⟨z, some u, ry.str, rfl, g1, hq _ _ hp (.bl _)⟩
  · exact False.elim hp
theorem xt_notInK (kd : ∃ es n, KDict X.K X.w A es n) (ht : ktabB X.K A tb = true) (hg : Gl X x) (hm : X.mg x = some (.ref A)) (hb : XP X C W b mb) (hdb : (x == ("__debug__" : Str)) = false := by decide)
    (hmk : behindInMarks .NotIn (.Name x p) = false := by rfl) : XT X C W (.Compare b [.NotIn] [.Name x p] pos) (eT (eb mb fun y => eP (dNotInK tb y))) := by
  obtain ⟨t, h1, h2⟩ := hb.ex
  obtain ⟨es, n, D, o⟩ := o_notInK (C := C) (W := W) kd ht
  exact ⟨_, pt_cmpR (op_notIn_kd D) h1 (pe_glob (v := .ref A) hg hm rfl hdb) hmk, den_test (den_un (r := fun y H Q => ∃ (z : Str) (r : Option Value), y = V.str z ∧ V.ref A = V.ref A ∧ PySem.W.nsIn X.K A z = some r ∧ Q (V.bl (!r.isSome)) H) back_R h2 o)⟩

/-! ## texts -/
def strsOf : List D → Option (List Str)
  | [] => some []
  | .str x :: r => (strsOf r).map (x :: ·)
  | _ :: _ => none
theorem RpL.strs {K : PySem.W.Frag} {mg : Str → Option Value} {pa : Option Addr} {F : Hp} : ∀ {ds : List D} {vs : List V} {ys : List Str}, RpL K mg pa F vs ds → strsOf ds = some ys → vs = ys.map V.str
  | [], _, _, h, e => by cases h; cases e; rfl
  | d :: ds, _, ys, h, e => by
    cases h with
    | cons r rr =>
      cases d with
      | str z =>
        unfold strsOf at e
        cases q : strsOf ds with
        | none => rw [q] at e; cases e
        | some l =>
          rw [q] at e
          cases e
          cases r
          rw [RpL.strs rr q]
          rfl
      | _ => cases e
def dJoin (i : Str) : P1
  | .lst ds, Q => ∃ ys, strsOf ds = some ys ∧ (ys.map (·.length)).sum + ys.length * i.length ≤ 16777216 ∧ Q (.str (Txt.join i ys))
  | .tup ds, Q => ∃ ys, strsOf ds = some ys ∧ (ys.map (·.length)).sum + ys.length * i.length ≤ 16777216 ∧ Q (.str (Txt.join i ys))
  | _, _ => False
theorem xe_join {i : Str} {j} (hK : X.K = C.K) (hb : XP X C W b mb) (hs : starEach [b] X.env = [(false, eval b X.env)] := by rfl)
    (hbase : attributeBase (.Constant (.str i) j p2) "join" X.env (eval (.Constant (.str i) j p2) X.env) = eval (.Constant (.str i) j p2) X.env := by rfl) (hline : (p1.endLine == pos.line) = true := by rfl) :
    XE X C W (.Call (.Attribute (.Constant (.str i) j p2) "join" p1) [b] [] pos) (eb mb fun y => eP (dJoin i y)) := by
  obtain ⟨u, g1, g2⟩ := hb.ex
  refine ⟨_, pe_join pe_str g1 hs hbase hline, fun σ ρ F H z Qd Xd Q S hm hq hx => ?_⟩
  refine ⟨⟨i, rfl⟩, g2 σ ρ F H z _ Xd _ S hm (fun dy ρ2 z2 y F2 H2 q2 S2 ff2 k2 o2 ry => ?_) hx⟩
  change dJoin i dy _ at q2
  rw [hK]
  cases dy with
  | lst ds =>
    obtain ⟨ys, e1, e2, q⟩ := q2
    obtain ⟨q0, xs, rfl, e3, rl, _⟩ := RT.lst S2.sub ry.now
    have := RpL.strs rl e1
    subst this
    exact ⟨i, q0, ys, rfl, rfl, .inl (.inl (.inl e3)), e2, hq _ _ _ _ _ _ q S2 ff2 k2 o2 (.str _)⟩
  | tup ds =>
    obtain ⟨ys, e1, e2, q⟩ := q2
    obtain ⟨q0, xs, rfl, e3, rl⟩ := RT.tup S2.sub ry.now
    have := RpL.strs rl e1
    subst this
    exact ⟨i, q0, ys, rfl, rfl, .inr e3, e2, hq _ _ _ _ _ _ q S2 ff2 k2 o2 (.str _)⟩
  | _ => exact False.elim q2
/-- methods without arguments on texts -/
def dStrM (c : Nat) (f : Str → D) : P1
  | .str a, Q => a.length ≤ c ∧ Q (f a)
  | _, _ => False
def dUpper : P1 := dStrM 5592405 fun a => .str (Txt.upper a)
/-- a text walked sign by sign -/
def sgn (c : Nat) : D := .str ⟨#[c]⟩
def fStrI : D → E (List D)
  | .str s => ep (s.cps.toList.map fun c => .str ⟨#[c]⟩)
  | _ => eStuck
theorem its_ok {K : PySem.W.Frag} {mg : Str → Option Value} {pa : Option Addr} {F : Hp} {s : Str} : IterOk K mg pa (Its s) (s.cps.toList.map fun c => D.str ⟨#[c]⟩) F := by
  constructor
  · intro C σ ρ F2 H z eK em ep S ff i hi
    rw [List.getElem?_eq_none_iff, List.length_map, Array.length_toList] at hi
    exact hi
  · intro C σ ρ F2 H z eK em ep S ff i d hi
    rw [List.getElem?_map, Option.map_eq_some_iff] at hi
    obtain ⟨c, e1, rfl⟩ := hi
    have e2 : s.cps[i]? = some c := by rw [← Array.getElem?_toList]; exact e1
    refine ⟨(Array.getElem?_eq_some_iff.mp e2).1, fun x H' y => ?_⟩
    obtain ⟨rfl, c2, e3, rfl⟩ := y
    rw [e2] at e3
    cases e3
    exact ⟨F2, Same.refl F2, S, Keep.refl, .str _⟩
theorem xi_str {tg l : Expr} (h : XE X C W l m) : XI X C W tg l (eb m fStrI) := by
  obtain ⟨t, h1, h2⟩ := h.ex
  refine ⟨_, pi_str h1, fun σ ρ F H z Qd Xd R S hm hq hx => h2 σ ρ F H z _ Xd _ S hm (fun d ρ1 z1 v F1 H1 q1 S1 ff1 k1 o1 r1 => ?_) hx⟩
  cases d with
  | str s =>
    cases r1
    exact ⟨s, rfl, hq _ _ _ _ _ _ q1 S1 ff1 k1 o1 its_ok⟩
  | _ => exact False.elim q1
end
end DL

namespace DL
open PySem PySem.Spec PyProof.Rows L2

/-! ## instances of an own class: fields, properties, methods, making -/
def lkp (f : Str) : List Str → List D → Option D
  | n :: ns, d :: ds => if n = f then some d else lkp f ns ds
  | _, _ => none
theorem lkp_rel {K : PySem.W.Frag} {mg : Str → Option Value} {pa : Option Addr} {F : Hp} {f : Str} : ∀ {ns : List Str} {ds : List D} {xs : List V} {d : D}, RpL K mg pa F xs ds → lkp f ns ds = some d → ∃ v, (ns.zip xs).lookup f = some v ∧ Rp K mg pa F v d
  | [], _, _, _, _, h => by cases h
  | _ :: _, [], _, _, _, h => by cases h
  | n :: ns, e :: ds, _, d, r, h => by
    cases r with
    | cons a b =>
      rename_i v vs
      unfold lkp at h
      rw [List.zip_cons_cons, List.lookup_cons]
      by_cases q : n = f
      · rw [if_pos q] at h
        cases h
        subst q
        rw [beq_self_eq_true]
        exact ⟨v, rfl, a⟩
      · rw [if_neg q] at h
        have : (f == n) = false := by
          cases w : f == n with
          | false => rfl
          | true => exact absurd (beq_iff_eq.mp w).symm q
        rw [this]
        exact lkp_rel b h
theorem Rp.insAt {C : CC} {F : Hp} {v : V} {c : Str} {ns : List Str} {ds : List D} {A : Addr} (hm : C.mg c = some (.ref A)) (h : C.R F v (.ins c ns ds)) : ∃ a dx xs, v = .ref a ∧ F a = some (.ins A dx (ns.zip xs)) ∧ ns.length = xs.length ∧ C.RL F xs ds := by
  cases h with
  | ins g q l r =>
    rw [hm] at g
    cases g
    exact ⟨_, _, _, rfl, q, l, r⟩
theorem RT.ins {C : CC} {F H : Hp} {v : V} {c : Str} {ns : List Str} {ds : List D} (h : RT C F H v (.ins c ns ds)) : C.R F v (.ins c ns ds) := by
  exact h.fro fun _ z => z
section
variable {X : Cx} {C : CC} {W : WX} {e a b : Expr} {es : List Expr} {kws : List Keyword} {m ma mb : E D} {pos p p1 p2 p3 : Pos} {k j n : Nat} {x c f : Str} {A : Addr}
/-- e.f, a field -/
def dFld (c f : Str) : P1
  | .ins c' ns ds, Q => c' = c ∧ ∃ d, lkp f ns ds = some d ∧ Q d
  | _, _ => False
theorem xe_fld (kx : Kx X C W k) (hm : X.mg c = some (.ref A)) (hc : Cls X.K A) (hn : NoAttr X.K A f) (ha : XP X C W a ma) (hb : attributeBase a f X.env (eval a X.env) = eval a X.env := by rfl) : XE X C W (.Attribute a f pos) (eb ma fun d => eP (dFld c f d)) := by
  obtain ⟨t, h1, h2⟩ := ha.ex
  refine ⟨_, pe_fld h1 hb, den_un (r := fun y H Q => ∃ a C dx fs v, y = V.ref a ∧ H a = some (.ins C dx fs) ∧ Cls X.K C ∧ NoAttr X.K C f ∧ fs.lookup f = some v ∧ Q v H) back_R h2 (op1_flat fun F H y dy Q Qd s ry hp hq => ?_)⟩
  unfold dFld at hp
  split at hp
  · obtain ⟨rfl, d, e1, q⟩ := hp
    obtain ⟨a, dx, xs, rfl, e2, l, r⟩ := Rp.insAt (by rw [← kx.hmg]; exact hm) (RT.ins ry)
    obtain ⟨v, e3, rv⟩ := lkp_rel r e1
    exact ⟨a, A, dx, _, v, rfl, s _ _ e2 ngI, hc, hn, e3, hq _ _ q rv⟩
  · exact False.elim hp
/-- a def that is reached by an object -/
structure GM (X : Cx) (j : Nat) (g : Addr) (fd : FuncData) (ps : List Str) (sp : Sp) : Prop where
  fn : FnG X.prog X.w X.K X.mg X.base j g fd ps sp
  bg : BG X.K fd ps [] ps.length gL gL
def tPG (A : Addr) (sp : Sp) (W : WX) (ta : TE) : TE := fun σ H Q => ta σ H fun x H1 => ∃ a dx fs, x = .ref a ∧ H1 a = some (.ins A dx fs) ∧ sp [.ref a] H1 Q (fun _ _ _ => False)
theorem run_prop {pins : List (Addr × Obj)} {σ : L2.St} {H : Hp} {s : Shared} {Q : VK} {bb : Bool} {q g o dx : Addr} {fs : List (Str × V)} {fd : FuncData} {ps : List Str} {sp : Sp} (I : Inv X pins σ H s) (e0 : H o = some (.ins A dx fs)) (hc : Cls X.K A) (hp : PropOf X.K A f q g)
    (G : GM X j g fd ps sp) (kx : Kx X C W k) (hj : j + 1 ≤ k) (h1 : ps.length = 1) (h : sp [.ref o] H Q (fun _ _ _ => False)) : wpAny (model X.prog X.w) X.A (getAttr (.ref o) f bb) (EP X pins σ Q) X.xe s := by
  obtain ⟨_, O, _⟩ := ins_get I.hok e0
  obtain ⟨_, J, _⟩ := O.look
  obtain ⟨rest, hr⟩ := hp.rec_
  have I1 := I.tok (s.toks + 1)
  have hroom : Room (j + 1) X.A := kx.room.mono hj
  obtain ⟨us', b1, b2⟩ := G.bg.to { s with toks := s.toks + 1 } [.ref o] [] I1.kIn h1.symm rfl
  have isc : (PySem.W.clsIn X.K A).isSome = true := by
    obtain ⟨cd, e1, _⟩ := PySem.W.any_some hc.hd
    rw [e1]
    rfl
  have pg := PySem.W.plainGet_of (hc.get f)
  refine PySem.W.get_bind I.kIn J pg.1 (PySem.W.findObj_data isc hp.at_ hp.get hp.tak) pg.2 (wpAny_call (PySem.W.prop_get (s := { s with toks := s.toks + 1 }) I.kIn hr ?_))
  refine codeAny_mono (G.fn.run X.A.in1 X.stack _ H _ us' [.ref o] Q (fun _ _ _ => False) kx.gu hroom.in1 I1.env0.in1 b1 (b2 _ [] (.cons rfl .nil) .nil) h) fun r s' hq => ?_
  rcases r with er | fl
  · obtain ⟨_, _, _, _, _, _, _, _, _, _, _, _, hw⟩ := hq
    exact hw.elim
  · cases fl with
    | ret u =>
      obtain ⟨v, H', I3, rv, q3⟩ := I1.after hq
      show wpAny _ _ (handedOut u) _ _ _
      rw [PySem.W.handedOut_of (handed_of rv)]
      exact wpAny_pure ⟨v, H', I3, rv, q3⟩
    | _ => exact False.elim hq
theorem pe_propG {q g : Addr} {fd : FuncData} {ps : List Str} {sp : Sp} {ta : TE} (he : PE X a ta) (hc : Cls X.K A) (hp : PropOf X.K A f q g) (G : GM X j g fd ps sp) (kx : Kx X C W k) (hj : j + 1 ≤ k) (h1 : ps.length = 1)
    (hb : attributeBase a f X.env (eval a X.env) = eval a X.env := by rfl) : PE X (.Attribute a f pos) (tPG A sp W ta) := by
  refine ⟨fun pins s σ H Q I h => attr_of hb (thn (he.run pins s σ H _ I h) fun u s1 w => ?_)⟩
  obtain ⟨x, H1, I1, rx, o, dx, fs, ex, e0, q0⟩ := w
  subst ex
  obtain rfl : u = Value.ref o := rx
  exact run_prop I1 e0 hc hp G kx hj h1 q0
/-- what a property's getter does, which raises nothing -/
def fProp {α : Type} (c : Str) (m : List D → E0 α) (d : D) : E α := fun ρ Q _ z => (∃ ns ds, d = .ins c ns ds) ∧ m [d] (fun r z' => Q r ρ z') (fun _ _ => False) z
theorem xo_prop {q g : Addr} {fd : FuncData} {ps : List Str} {mg : List D → E0 (List D)} (kx : Kx X C W k) (hm : X.mg c = some (.ref A)) (hc : Cls X.K A) (hp : PropOf X.K A f q g) (G : GM X j g fd ps (spO X.K X.mg 1 mg)) (hj : j + 1 ≤ k) (h1 : ps.length = 1) (ha : XE X C W a ma)
    (hb : attributeBase a f X.env (eval a X.env) = eval a X.env := by rfl) : XO X C W (.Attribute a f pos) (eb ma fun d => fProp c mg d) := by
  obtain ⟨t, t1, t2⟩ := ha.ex
  refine ⟨_, pe_propG t1 hc hp G kx hj h1 hb, Den.bind (u := fun x σ H Q => ∃ a dx fs, x = V.ref a ∧ H a = some (.ins A dx fs) ∧ spO X.K X.mg 1 mg [.ref a] H Q (fun _ _ _ => False)) back_O t2 ?_⟩
  intro H0 σ ρ F H z d x Qd Xd Q S ra hm' hq hx
  obtain ⟨⟨ns, ds, rfl⟩, hm'⟩ := hm'
  obtain ⟨o, dx, xs, rfl, e2, l, r⟩ := Rp.insAt (by rw [← kx.hmg]; exact hm) ra
  refine ⟨o, dx, _, rfl, S.sub _ _ e2 ngI, rfl, C.pa, F, z, [_], _, _, S.sub, ⟨S.pz, by rw [kx.hK, kx.hmg]; exact S.cs⟩, ?_, hm', fun d z' a xs F' H' q' af e1 e2 e3 e4 r => ?_, fun e z' cls dd F' H' q' a r => q'⟩
  · rw [kx.hK, kx.hmg]; exact .cons ra .nil
  · rw [kx.hK, kx.hmg] at r af
    exact hq d ρ z' _ F' H' q' (S.call af) af.1 af.2.2.1 Ole.refl ⟨a, xs, rfl, e1, e2, e3, e4, r⟩

/-! ### making -/
/-- what an __init__ with its fields in order promises -/
def spN (K : PySem.W.Frag) (mg : Str → Option Value) (ns : List Str) (n : Nat) (m : List D → E0 (List D)) : Sp := fun vs H Q E => vs.length = n + 1 ∧ ∃ (a A dx : Addr) (args : List V) (pa : Option Addr) (F : Hp) (z : Zs) (ds : List D) (Qd : List D → Zs → Prop) (Xd : Er → Zs → Prop),
  vs = .ref a :: args ∧ H a = some (.ins A dx []) ∧ F a = none ∧ some a ≠ pa ∧ Cls K A ∧ (∀ f ∈ ns, NoAttr K A f) ∧ Sub F H ∧ PC K mg pa F H z ∧ RpL K mg pa F args ds ∧ m ds Qd Xd z ∧
  (∀ fs z' xs F' H1, Qd fs z' → Aft K mg pa F H F' H1 z' → F' a = none → ns.length = xs.length → RpL K mg pa F' xs fs → Q .non (upd H1 a (.ins A dx (ns.zip xs)))) ∧
  (∀ e z' cls dd F' H', Xd e z' → Aft K mg pa F H F' H' z' → ExR ⟨K, mg, pa, F, H, []⟩ F' H' e cls dd → E cls dd H')
def dN (n : Nat) (me : E D) : List D → E0 (List D) := fun ds Q X z => me (.no :: rho0 n ds) (fun d _ z => Q [d] z) (fun e _ z => X e z) z
theorem StOk.cons {C : CC} {σ : L2.St} {ρ : Rho} {F H : Hp} {z : Zs} {v : V} (S : StOk C σ ρ F H z) : StOk C (some v :: σ) (.no :: ρ) F H z := by
  refine ⟨S.sub, S.f0, S.h0, S.nw, by simp [S.len], fun i v s e1 e2 => ?_, fun i j x y a e1 e2 e3 e4 => ?_, S.pz, S.hd, S.cs⟩
  · cases i with
    | zero => cases e2; cases v <;> trivial
    | succ i => exact S.env i v s e1 e2
  · cases i with
    | zero => cases e1
    | succ i =>
      cases j with
      | zero => cases e2
      | succ j => exact congrArg Nat.succ (S.apart i j x y a e1 e2 e3 e4)
theorem fnN1_of {P : Program} {w : World} {K : PySem.W.Frag} {mg : Str → Option Value} {base : Heap} {k : Nat} {fa : Addr} {x qual g : Str} {params : Arguments} {body : List Stmt} {scope : Scope} {dvs : List V} {kws : List (Str × V)} {fd : FuncData} {N ps : List Str} {me : E D} {ex : Expr} {q1 q2 q3 : Pos}
    (F : FunD K x qual params body scope dvs kws fa fd) (S : FnScope ("self" :: N) ("self" :: ps) scope) (hbd : body = [.Assign [.Attribute (.Name "self" q1) g q2] ex q3])
    (hv : ∀ (cdv : Value) (A : Around) (outer : List PySem.Env) (s : Shared) (H : Hp) (E : XK), PE (cxG P w K mg base ("self" :: N) qual scope fa cdv A outer s H E) (.Name "self" q1) (tVar 0))
    (hs : ∀ (cdv : Value) (A : Around) (outer : List PySem.Env) (s : Shared) (H : Hp) (E : XK), swapsWith ex (some (.Attribute (.Name "self" q1) g q2)) q3.line (cxG P w K mg base ("self" :: N) qual scope fa cdv A outer s H E).env = pure false)
    (hbody : ∀ (cdv : Value) (A : Around) (outer : List PySem.Env) (s : Shared) (H : Hp) (E : XK) (pa : Option Addr) (F0 : Hp) (a : Addr), Kx (cxG P w K mg base ("self" :: N) qual scope fa cdv A outer s H E) ⟨K, mg, pa, F0, H, [a]⟩ (wE E) k →
      XE (cxG P w K mg base ("self" :: N) qual scope fa cdv A outer s H E) ⟨K, mg, pa, F0, H, [a]⟩ (wE E) ex me) : FnG P w K mg base (k + 1) fa fd ("self" :: ps) (spN K mg [g] ps.length (dN N.length me)) := by
  refine fnG_of F S (fun vs H Q E h => h.1) fun cdv A outer s H vs Q E hg hr h => ?_
  obtain ⟨hl, a, C0, dx, args, pa, F0, z, ds, Qd, Xd, rfl, e0, hf, np, hc, hn, sub, pz, r, hm, hq, hx⟩ := h
  have kx0 := kx_of (P := P) (w := w) (K := K) (mg := mg) (base := base) (E := E) (pa := pa) (F := F0) (outer := outer) (H := H) S hg hr
  have kx : Kx (cxG P w K mg base ("self" :: N) qual scope fa cdv A outer s H E) ⟨K, mg, pa, F0, H, [a]⟩ (wE E) k := ⟨kx0.hK, kx0.hmg, kx0.calm, kx0.gu, kx0.room, kx0.tk, kx0.nd, kx0.po⟩
  obtain ⟨t, h1, h2⟩ := (hbody cdv A outer s H E pa F0 a kx).ex
  have hnl : args.length ≤ N.length := by
    have := congrArg List.length S.pre
    rw [List.length_take] at this
    simp only [List.length_cons] at this hl
    omega
  have S0 : StOk ⟨K, mg, pa, F0, H, [a]⟩ (L2.start ("self" :: N) (.ref a :: args)) (.no :: rho0 N.length ds) F0 H z := by
    have s1 := start_ok (K := K) (mg := mg) (N := N) sub pz r hnl
    have s2 : StOk ⟨K, mg, pa, F0, H, []⟩ (some (.ref a) :: L2.start N args) (.no :: rho0 N.length ds) F0 H z := s1.cons
    have es : L2.start ("self" :: N) (.ref a :: args) = some (.ref a) :: L2.start N args := by
      unfold L2.start
      simp
    rw [es]
    refine ⟨s2.sub, s2.f0, s2.h0, s2.nw, s2.len, fun i v sl e1 e2 => ?_, s2.apart, s2.pz, fun b hb => ?_, s2.cs⟩
    · have := s2.env i v sl e1 e2
      cases sl with
      | no => cases v <;> trivial
      | fr d =>
        cases v with
        | none => exact this.elim
        | some v => exact this
      | own xs =>
        cases i with
        | zero => cases e2
        | succ i =>
          have e3 : (rho0 N.length ds)[i]? = some (.own xs) := e2
          unfold rho0 at e3
          by_cases hi : i < ds.length
          · rw [List.getElem?_append_left (by simpa using hi), List.getElem?_map] at e3
            cases q : ds[i]? with
            | none => rw [q] at e3; cases e3
            | some u => rw [q] at e3; cases e3
          · rw [List.getElem?_append_right (by simp; omega), List.getElem?_replicate] at e3
            split at e3 <;> cases e3
    · cases hb with
      | head => exact ⟨hf, ⟨_, e0⟩, np⟩
      | tail _ h => cases h
  subst hbd
  refine ⟨_, pss_one (ps_fld (hv cdv A outer s H E) h1 (hs cdv A outer s H E)), ?_⟩
  refine h2 _ _ F0 H z _ _ _ S0 hm (fun d ρ' z' v F' H' q S' ff k' o' r' => ?_) (fun e ρ' z' cls dd F' H' q S' ff r' => hx e z' cls dd F' H' q ⟨S'.f0, S'.sub, S'.h0, S'.nw, S'.pz, S'.cs⟩ r')
  have h3 : H' a = some (.ins C0 dx []) := k'.ke a _ e0 np (nog hf)
  have h4 : F' a = none := (S'.hd a List.mem_cons_self).1
  refine ⟨.ref a, ?_, a, C0, dx, [], rfl, h3, hc, hn g List.mem_cons_self, by decide, ?_⟩
  · unfold L2.start
    rfl
  · exact hq [d] z' [v] F' H' q ⟨S'.f0, S'.sub, S'.h0, S'.nw, S'.pz, S'.cs⟩ h4 rfl (.cons r' .nil)
theorem mk_guards {B : Around} {u : Addr} {us : List Value} {kw : List (Str × Value)} : (B.under (.builtin "type.__call__" ⟨.ref u :: us, kw⟩)).guards = B.guards := by
  have h : (Code.builtin "type.__call__" ⟨.ref u :: us, kw⟩).guards = [] := by
    first | rfl | simp [Code.guards, Code.isGuard, guardIds]
  show pushGuards (Code.builtin "type.__call__" ⟨.ref u :: us, kw⟩).guards B.guards = B.guards
  rw [h]
  rfl
theorem run_mkG {pins : List (Addr × Obj)} {σ : L2.St} {H : Hp} {s : Shared} {Q : VK} {us ws : List Value} {vs zs : List V} {g : Addr} {fd : FuncData} {ps ks : List Str} {sp : Sp} {gV : List V → List V → List V} {gD : List D → List D → List D}
    (M : Mk X.K A g) (F : FnG X.prog X.w X.K X.mg X.base j g fd ps sp) (kx : Kx X C W k) (hj : j + 1 ≤ k) (hb : BG X.K fd ps ks (n + 1) gV gD) (I : Inv X pins σ H s) (r : Vals vs us) (rz : Vals zs ws) (l1 : vs.length = n) (l2 : zs.length = ks.length)
    (h : ∀ o dx, H o = none → H dx = none → dx ≠ o → sp (gV (.ref o :: vs) zs) (upd (upd H dx (.own o)) o (.ins A dx [])) (fun v H2 => v = .non ∧ Q (.ref o) H2) (WE W σ)) :
    wpAny (model X.prog X.w) X.A (call (.ref A) us (ks.zip ws)) (EP X pins σ Q) X.xe s := by
  have f1 : H (s.heap.objs.size + 1) = none := I.hok.fresh (Nat.le_succ _)
  have f0 : H s.heap.objs.size = none := I.hok.fresh (Nat.le_refl _)
  have hq := h _ _ f1 f0 (Nat.ne_of_lt (Nat.lt_succ_self _))
  have I2 := Inv.made (C := A) I
  have rs : Vals (V.ref (s.heap.objs.size + 1) :: vs) (Value.ref (s.heap.objs.size + 1) :: us) := .cons rfl r
  obtain ⟨us', b, rr⟩ := hb.to _ (Value.ref (s.heap.objs.size + 1) :: us) ws I2.kIn (rs.length.symm.trans (congrArg Nat.succ l1)) (rz.length.symm.trans l2)
  have hroom : Room (j + 1) X.A := kx.room.mono hj
  have run := F.run _ X.stack _ _ ⟨Value.ref (s.heap.objs.size + 1) :: us, ks.zip ws⟩ us' _ _ (WE W σ) (mk_guards.trans kx.gu) (hroom.make A us (ks.zip ws)) (I2.env0.make A us (ks.zip ws)) b (rr _ _ rs rz) hq
  refine wpAny_call (make_map (f := g) I.kIn M.makes M.init (beq_iff_eq.mp M.fn) (codeAny_mono run fun r s' hq' => ?_))
  rcases r with er | fl
  · exact passAt kx.tk σ pins _ _ er s' I2 hq'
  · cases fl with
    | ret u =>
      obtain ⟨v, H', I3, rv, ev, q3⟩ := I2.after hq'
      subst ev
      exact ⟨rv, V.ref _, H', I3, rfl, q3⟩
    | _ => exact False.elim hq'
def tMkG (A : Addr) (n m : Nat) (sp : Sp) (gV : List V → List V → List V) (W : WX) (t tk : TA) : TE := fun σ H Q => t σ H fun vs H1 => tk σ H1 fun zs H2 => vs.length = n ∧ zs.length = m ∧
  ∀ o dx, H2 o = none → H2 dx = none → dx ≠ o → sp (gV (.ref o :: vs) zs) (upd (upd H2 dx (.own o)) o (.ins A dx [])) (fun v H3 => v = .non ∧ Q (.ref o) H3) (WE W σ)
/-- the class that a global name holds, its __init__ -/
structure GC (X : Cx) (x : Str) (A : Addr) (j : Nat) (g : Addr) (fd : FuncData) (ps : List Str) (sp : Sp) : Prop where
  fn : FnG X.prog X.w X.K X.mg X.base j g fd ps sp
  mg : X.mg x = some (.ref A)
  mkr : Mk X.K A g
  cls : Cls X.K A
theorem keep2 {pa : Option Addr} {F H : Hp} {o dx : Addr} {u v : HO} (ho : H o = none) (hdx : H dx = none) : Keep pa F F H (upd (upd H dx v) o u) := (Keep.new hdx).updH ho
/-- a new object, whose fields have been laid, is frozen -/
theorem StOk.newI {σ : L2.St} {ρ : Rho} {F H F' H1 : Hp} {z z' : Zs} {o dx : Addr} {v : HO} {u : HO} (S : StOk C σ ρ F H z) (ho : H o = none) (hdx : H dx = none) (ne : dx ≠ o) (a : Aft C.K C.mg C.pa F (upd (upd H dx (.own o)) o u) F' H1 z') (hF : F' o = none) (nv : NG v) :
    StOk C σ ρ (upd F' o v) (upd H1 o v) z' ∧ Same F (upd F' o v) ∧ Keep C.pa F (upd F' o v) H (upd H1 o v) := by
  have npo : some o ≠ C.pa := S.npa ho
  have npd : some dx ≠ C.pa := S.npa hdx
  have ff : Same F (upd F' o v) := a.1.trans (Same.new hF)
  have kk : Keep C.pa F (upd F' o v) H (upd H1 o v) := by
    have k1 : Keep C.pa F F' H H1 := (keep2 ho hdx).trans a.2.2.1
    have k2 := k1.updH (o := v) ho
    refine ⟨k2.ke, fun b k e => k2.gn b k (gh_upd nv e), k2.dm⟩
  refine ⟨S.grow ff (Sub.upd2 a.2.1) kk (fun b h1 h2 => ?_) (fun q e => ?_) (a.2.2.2.2.2.grow (Same.new hF) (fun _ _ e => gh_upd nv e) fun b k w e1 e2 => by rw [upd_ne (ne_of_none e1 hF)]; exact e2), ff, kk⟩
  · by_cases q : b = o
    · rw [q]; exact ho
    · rw [upd_ne q] at h1
      have := a.2.2.2.1 b h1 h2
      rw [upd_ne q] at this
      by_cases q2 : b = dx
      · rw [q2]; exact hdx
      · rw [upd_ne q2] at this; exact this
  · obtain ⟨h1, x, y, h2, rr⟩ := a.2.2.2.2.1 q e
    have ne1 : q ≠ o := fun w => npo (by rw [← w]; exact e.symm)
    exact ⟨by rw [upd_ne ne1]; exact h1, x, y, by rw [upd_ne ne1]; exact h2, rr⟩
/-- C(..) -/
def fNew (c : Str) (ns : List Str) (n m : Nat) (mi : List D → E0 (List D)) (ds es : List D) : E D := fun ρ Q X z => ds.length = n ∧ es.length = m ∧ mi (ds ++ es) (fun fs z' => fs.length = ns.length ∧ Q (.ins c ns fs) ρ z') (fun e z' => X e ρ z') z
def eNew (c : Str) (ns : List Str) (n m : Nat) (mi : List D → E0 (List D)) (ma mk : E (List D)) : E D := eb ma fun ds => eb mk fun es => fNew c ns n m mi ds es
theorem den_new {ns : List Str} {N n1 n2 : Nat} {ta tk : TA} {ma mk : E (List D)} {mi : List D → E0 (List D)} {gV : List V → List V → List V} (kx : Kx X C W k) (hm : X.mg c = some (.ref A)) (hc : Cls X.K A) (hn : ∀ f ∈ ns, NoAttr X.K A f) (hN : N = n1 + n2)
    (hg : ∀ o vs zs, vs.length = n1 → zs.length = n2 → gV (o :: vs) zs = o :: (vs ++ zs)) (ha : Den C W ta ma (kL C)) (hk : Den C W tk mk (kL C)) : Den C W (tMkG A n1 n2 (spN X.K X.mg ns N mi) gV W ta tk) (eNew c ns n1 n2 mi ma mk) (kR C) := by
  refine Den.bind (u := fun vs σ H Q => tk σ H fun zs H2 => vs.length = n1 ∧ zs.length = n2 ∧ ∀ o dx, H2 o = none → H2 dx = none → dx ≠ o → spN X.K X.mg ns N mi (gV (.ref o :: vs) zs) (upd (upd H2 dx (.own o)) o (.ins A dx [])) (fun v H3 => v = .non ∧ Q (.ref o) H3) (WE W σ)) back_R ha ?_
  intro H0 σ ρ F H z ds vs Qd Xd Q S ra hm' hq hx
  refine hk σ ρ F H z _ Xd _ S hm' (fun es ρ2 z2 zs F2 H2 q2 S2 ff2 k2 o2 rb => ?_) hx
  obtain ⟨q1, q2, q3⟩ := q2
  have ra2 : C.RL F2 vs ds := RpL.mono ff2 ra
  have e1 := (RpL.length ra).trans q1
  have e2 := (RpL.length rb).trans q2
  refine ⟨e1, e2, fun o dx ho hdx ne => ?_⟩
  rw [hg (.ref o) vs zs e1 e2]
  have npo := S2.npa ho
  have fo : F2 o = none := S2.free ho
  have fd : F2 dx = none := S2.free hdx
  refine ⟨by simp [e1, e2, hN], o, A, dx, vs ++ zs, C.pa, F2, z2, ds ++ es, _, _, rfl, upd_same, fo, npo, hc, hn, ?_, ?_, ?_, q3, fun fs z' xs F' H1 q' a f1 l1 r1 => ⟨rfl, ?_⟩, fun e z' cls dd F' H' q' a r => ?_⟩
  · exact Sub.updR (Sub.updR S2.sub fd) fo
  · refine ⟨fun q e => ?_, ?_⟩
    rotate_left
    · rw [kx.hK, kx.hmg]
      exact S2.cs.grow (Same.refl _) (fun _ _ e => e) fun b k w e1 e2 => by rw [upd_ne (ne_of_none e2 ho), upd_ne (ne_of_none e2 hdx)]; exact e2
    obtain ⟨h1, x, y, h2, rr⟩ := S2.pz q e
    have n1 : q ≠ o := ne_of_none h2 ho
    have n2 : q ≠ dx := ne_of_none h2 hdx
    exact ⟨h1, x, y, by rw [upd_ne n1, upd_ne n2]; exact h2, rr⟩
  · rw [kx.hK, kx.hmg]; exact RpL.append ra2 rb
  · rw [kx.hK, kx.hmg] at r1 a
    obtain ⟨S3, f3, k3⟩ := S2.newI (v := .ins A dx (ns.zip xs)) ho hdx ne a f1 ngI
    refine hq _ ρ2 z' (.ref o) _ _ q'.2 S3 (ff2.trans f3) (k2.trans k3) o2 ?_
    exact .ins (by rw [← kx.hmg]; exact hm) upd_same l1 (RpL.mono (Same.new f1) r1)
  · rw [kx.hK, kx.hmg] at r a
    have k0 : Keep C.pa F2 F2 H2 (upd (upd H2 dx (.own o)) o (.ins A dx [])) := keep2 ho hdx
    refine hx e ρ2 z' cls dd F' H' q' (S2.grow a.1 a.2.1 (k0.trans a.2.2.1) (fun b h1 h2 => ?_) a.2.2.2.2.1 a.2.2.2.2.2) (ff2.trans a.1) ?_
    · have := a.2.2.2.1 b h1 h2
      by_cases w1 : b = o
      · rw [w1]; exact ho
      · rw [upd_ne w1] at this
        by_cases w2 : b = dx
        · rw [w2]; exact hdx
        · rw [upd_ne w2] at this; exact this
    · skip
      exact r
theorem xe_new {ns : List Str} {g : Addr} {fd : FuncData} {ps : List Str} {mi : List D → E0 (List D)} {ms : E (List D)} (G : GC X x A j g fd ps (spN X.K X.mg ns n mi)) (kx : Kx X C W k) (hj : j + 1 ≤ k) (hb : BG X.K fd ps [] (n + 1) gL gL) (hn : ∀ f ∈ ns, NoAttr X.K A f) (hg : Gl X x)
    (ha : XA X C W (e :: es) ms) (hdb : (x == ("__debug__" : Str)) = false := by decide) (he : starEach (e :: es) X.env = (false, eval e X.env) :: starEach es X.env := by rfl) (hpl : (backTo pos (starEach es X.env)).any (·.1) = false := by rfl) :
    XE X C W (.Call (.Name x p) (e :: es) [] pos) (eNew x ns n 0 mi ms (ep [])) := by
  obtain ⟨t, t1, t2⟩ := ha.ex
  refine ⟨tMkG A n 0 (spN X.K X.mg ns n mi) gL W t tNil, ⟨fun pins s σ H Q I h => ?_⟩, den_new kx G.mg G.cls hn rfl (fun o vs zs h1 h2 => by cases zs with
    | nil => simp [gL]
    | cons a b => cases h2) t2 (fun σ ρ F H z Qd Xd Q S hm hq hx => S.same (R := kL C) hm .nil hq)⟩
  refine wpAny_Call_Name_kw (ld_glob I hg G.mg ?_ hdb)
  refine PySem.W.callWith_K (h₀ := X.base) I.ok.mod.kin G.mkr.kp (thn (t1.run pos pins s σ H _ I h) fun us s1 ⟨vs, H1, I1, r, l1, l2, q⟩ => ⟨I1.kIn, ?_⟩) he hpl
  exact run_mkG (us := us) (ws := []) G.mkr G.fn kx hj hb I1 r .nil l1 rfl q
end
end DL

namespace DL
open PySem PySem.Spec PyProof.Rows L2

/-! ## try with several clauses, each with the same name for its error -/
abbrev Cl1 := Value × (Addr → Value → Option Addr → TS)
/-- the ends behind a suite: the error's name is gone -/
def endI (i : Nat) (D : Ends) : Ends := { nx := fun σ' H' => D.nx (σ'.set i none) H', rt := D.rt, bk := fun σ' H' => D.bk (σ'.set i none) H', ct := fun σ' H' => D.ct (σ'.set i none) H' }
def wCl (K : PySem.W.Frag) (i : Nat) (Wo : WX) (D : Ends) : List Cl1 → WX
  | [] => Wo
  | c :: r => fun cls d σ H => ∃ b, PySem.W.exmOne K cls c.1 = some b ∧ (b = true → ∀ a, H a = none → c.2 a cls d (endI i D) (σ.set i (some (.ref a))) H) ∧ (b = false → wCl K i Wo D r cls d σ H)
inductive ClsOk (X : Cx) (n : Str) : List ExceptHandler → List Cl1 → Prop
  | nil : ClsOk X n [] []
  | cons {x : Str} {c : Value} {ts : Addr → Value → Option Addr → TS} {s0 : Stmt} {su : List Stmt} {np p' : Pos} {hds : List ExceptHandler} {l : List Cl1} (hc : Names X x c)
      (hsu : ∀ (a : Addr) (ob : Obj) (cls : Value) (d : Option Addr) (pn : List (Addr × Obj)), Zc cls d ob → (∃ vs, ob.data = .fields vs) → PSs (X.suite a ((a, ob) :: pn)) (s0 :: su) (ts a cls d)) (r : ClsOk X n hds l) :
      ClsOk X n (.ExceptHandler (some (.Name x np)) (some n) (s0 :: su) p' :: hds) ((c, ts) :: l)
section
variable {X : Cx} {n : Str} {i : Nat} {body : List Stmt} {hd0 : ExceptHandler} {hds : List ExceptHandler} {l : List Cl1} {pos : Pos} {tb : WX → TS} {Wo : WX}
end
abbrev Cl := (Str → Option Bool) × (Addr → Addr → Str → E Fl)
def trL (i : Nat) (Q : Fl → Rho → Zs → Prop) (X : Er → Rho → Zs → Prop) : List Cl → Er → Rho → Zs → Prop
  | [] => X
  | c :: r => fun e ρ z => ∃ b, c.1 e.1 = some b ∧ if b = true then ∀ a x, c.2 a x e.1 (ρ.set i (.fr (.exn a x e.1 e.2))) (dropX i Q) (fun _ _ _ => False) z else trL i Q X r e ρ z
def sTryL (i : Nat) (mb : E Fl) (cs : List Cl) : E Fl := fun ρ Q X z => mb ρ Q (trL i Q X cs) z
inductive XCl (X : Cx) (C : CC) (n : Str) : List ExceptHandler → List Cl → Prop
  | nil : XCl X C n [] []
  | cons {x : Str} {cv : Value} {tbl : Str → Option Bool} {hM : Addr → Addr → Str → E Fl} {s0 : Stmt} {su : List Stmt} {np p' : Pos} {hds : List ExceptHandler} {l : List Cl} (hc : Names X x cv)
      (ht : ∀ nm b A, tbl nm = some b → C.mg nm = some (.ref A) → PySem.W.exmOne X.K (.ref A) cv = some b)
      (hsu : ∀ (a : Addr) (ob : Obj) (A x : Addr) (nm : Str) (pn : List (Addr × Obj)), C.mg nm = some (.ref A) → Zc (.ref A) (some x) ob → (∃ vs, ob.data = .fields vs) → tbl nm = some true → XSs (X.suite a ((a, ob) :: pn)) C wN (s0 :: su) (hM a x nm))
      (r : XCl X C n hds l) : XCl X C n (.ExceptHandler (some (.Name x np)) (some n) (s0 :: su) p' :: hds) ((tbl, hM) :: l)
section
variable {X : Cx} {C : CC} {W : WX} {n : Str} {i k : Nat} {body : List Stmt} {hd0 : ExceptHandler} {hds : List ExceptHandler} {cs : List Cl} {pos : Pos} {mb : E Fl}
theorem XCl.ok : ∀ {hds : List ExceptHandler} {cs : List Cl}, XCl X C n hds cs → ∃ l, ClsOk X n hds l ∧ ∀ (Qd : Fl → Rho → Zs → Prop) (Xd : Er → Rho → Zs → Prop) (Dn : Ends) (H0 F : Hp) (e : Er) (ρ : Rho) (z : Zs) (cls : Value) (dd : Option Addr) (σ : L2.St) (F' H' : Hp),
    StOk C σ ρ F' H' z → Same F F' → ExR C F' H' e cls dd → trL i Qd Xd cs e ρ z → (∀ fl ρ' z' F' H', Qd fl ρ' z' → Same F F' → EndOk C Dn H0 fl ρ' z' F' H') →
    (∀ e ρ' z' cls dd σ' F' H', Xd e ρ' z' → StOk C σ' ρ' F' H' z' → Same F F' → ExR C F' H' e cls dd → W cls dd σ' H') → wCl X.K i W Dn l cls dd σ H'
  | _, _, .nil => ⟨[], .nil, fun Qd Xd Dn H0 F e ρ z cls dd σ F' H' S ff r h hq hx => hx e ρ z cls dd σ F' H' h S ff r⟩
  | _, _, @XCl.cons _ _ _ x cv tbl hM s0 su np p' hds l hc ht hsu rr => by
    obtain ⟨l2, ok2, h2⟩ := XCl.ok rr
    let tsU : Addr → Value → Option Addr → TS := fun a cls d D σ H => ∀ ob pn, Zc cls d ob → (∃ vs, ob.data = .fields vs) → ∃ t, PSs (X.suite a ((a, ob) :: pn)) (s0 :: su) t ∧ t D σ H
    refine ⟨(cv, tsU) :: l2, .cons hc (fun a ob cls d pn hz hv => ?_) ok2, fun Qd Xd Dn H0 F e ρ z cls dd σ F' H' S ff r h hq hx => ?_⟩
    · constructor
      intro pins s σ H D I h
      obtain ⟨t, g1, g2⟩ := h ob pn hz hv
      exact g1.run pins s σ H D I g2
    · obtain ⟨b, hb1, q⟩ := h
      have r0 := r
      obtain ⟨A, x', v, g1, rfl, rfl, g4, g5⟩ := r
      refine ⟨b, ht e.1 b A hb1 g1, fun hb2 a ha ob pn' hz hv => ?_, fun hb2 => ?_⟩
      · subst hb2
        rw [if_pos rfl] at q
        obtain ⟨t2, k1, k2⟩ := (hsu a ob A x' e.1 pn' g1 hz hv hb1).ex
        have S2 : StOk C (σ.set i (some (.ref a))) (ρ.set i (.fr (.exn a x' e.1 e.2))) F' H' z := S.setF i (.exn g4 g5)
        refine ⟨t2, k1, k2 _ _ F' H' z _ (fun _ _ _ => False) _ S2 (q a x') (fun fl ρ2 z2 F2 H2 q2 ff2 => ?_) (fun e ρ' z' cls dd σ' F' H' q => q.elim)⟩
        have h3 := fun fl q => hq fl (ρ2.set i .no) z2 F2 H2 q (ff.trans ff2)
        cases fl with
        | nx => exact fun σ2 S2 => h3 .nx q2 _ (S2.setNo i none)
        | bk => exact fun σ2 S2 => h3 .bk q2 _ (S2.setNo i none)
        | ct => exact fun σ2 S2 => h3 .ct q2 _ (S2.setNo i none)
        | ret d => exact hq (.ret d) ρ2 z2 F2 H2 q2 (ff.trans ff2)
        | retO d => exact hq (.retO d) ρ2 z2 F2 H2 q2 (ff.trans ff2)
      · subst hb2
        rw [if_neg Bool.false_ne_true] at q
        exact h2 Qd Xd Dn H0 F e ρ z _ _ σ F' H' S ff r0 q hq hx
end
end DL

namespace DL
open PySem PySem.Spec PyProof.Rows L2

/-! ## len(set(..)) of texts -/
def stp (σ : List Str) (v : Str) : List Str := if v ∈ σ then σ else σ ++ [v]
def uniq (xs : List Str) : List Str := xs.foldl stp []
theorem stp_any (σ : List Str) (v k : Str) : (stp σ v).any (· == k) = (σ.any (· == k) || decide (k = v)) := by
  unfold stp
  by_cases h : v ∈ σ
  · rw [if_pos h]
    by_cases e : k = v
    · subst e
      have : σ.any (· == k) = true := List.any_eq_true.mpr ⟨k, h, beq_self_eq_true k⟩
      rw [this]; rfl
    · rw [decide_eq_false e, Bool.or_false]
  · rw [if_neg h, List.any_append]
    congr 1
    simp only [List.any_cons, List.any_nil, Bool.or_false]
    by_cases e : k = v
    · subst e; simp
    · rw [decide_eq_false e]
      cases q : v == k with
      | false => rfl
      | true => exact absurd (beq_iff_eq.mp q).symm e
theorem stp_len (σ : List Str) (v : Str) : (stp σ v).length = if σ.any (· == v) then σ.length else σ.length + 1 := by
  have hm : (σ.any (· == v) = true) ↔ v ∈ σ := by
    rw [List.any_eq_true]
    exact ⟨fun ⟨x, h1, h2⟩ => by rw [← beq_iff_eq.mp h2]; exact h1, fun h => ⟨v, h, beq_self_eq_true v⟩⟩
  unfold stp
  by_cases h : v ∈ σ
  · rw [if_pos h, if_pos (hm.mpr h)]
  · rw [if_neg h, if_neg (fun q => h (hm.mp q)), List.length_append]; rfl
theorem uniq_take {xs : List Str} {i : Nat} (h : i < xs.length) : uniq (xs.take (i + 1)) = stp (uniq (xs.take i)) (xs.getD i Str.empty) := by
  unfold uniq
  rw [List.take_succ, List.foldl_append, List.getElem?_eq_getElem h, List.getD_eq_getElem?_getD, List.getElem?_eq_getElem h]
  rfl
theorem stp_le (σ : List Str) (v : Str) : (stp σ v).length ≤ σ.length + 1 := by
  unfold stp
  split
  · omega
  · simp
theorem foldl_le : ∀ (xs σ : List Str), (xs.foldl stp σ).length ≤ σ.length + xs.length
  | [], σ => by simp
  | x :: xs, σ => by
    have h1 := foldl_le xs (stp σ x)
    have h2 := stp_le σ x
    simp only [List.foldl_cons, List.length_cons]
    omega
theorem uniq_le (xs : List Str) : (uniq xs).length ≤ xs.length := by
  have := foldl_le xs []
  simpa [uniq] using this
section
variable {prog : Program} {w : World} {A : Around} {R : Result → Shared → Prop} {I : Addr} {fp wr : List Addr} {G : Array GenState → Array GenState → Prop} {n : Nat} {P : Nat → Value → Prop} {St : Nat → Shared → Prop}
theorem set_loop (Wk : WalksS prog w A.in1 I fp wr G n P St) (S : Addr) (out : S ∉ fp) (xs : List Str) (hn : xs.length = n) (few : n + 1 < scanBound) (val : ∀ i v, P i v → ∃ t, v = .str (xs.getD i Str.empty) t) :
    ∀ (m i : Nat) (s : Shared), n - i = m → i ≤ n → St i s → s.heap.SetOf (strKind prog w) S (fun k => (uniq (xs.take i)).any (· == k)) (uniq (xs.take i)).length →
      (∀ s', Moved (S :: wr) G s s' → s'.heap.SetOf (strKind prog w) S (fun k => (uniq xs).any (· == k)) (uniq xs).length → R (.ok (.ret .none)) s') →
      codeAny (model prog w) A (.builtin "set.update.loop" ⟨[.ref S, .ref I], []⟩) R s := by
  have notW : S ∉ wr := fun h => out (Wk.sub _ h)
  have more : ∀ b ∈ wr, b ∈ S :: wr := fun b hb => .tail _ hb
  have keeps : ∀ {s s' : Shared} {g : Str → Bool} {c : Nat}, (∀ o, s.heap.get? S = some o → s'.heap.get? S = some o) → s.heap.SetOf (strKind prog w) S g c → s'.heap.SetOf (strKind prog w) S g c := fun k h => by
    obtain ⟨o, es, ep, t, ho, rest⟩ := h
    exact ⟨o, es, ep, t, k _ ho, rest⟩
  intro m
  induction m with
  | zero =>
    intro i s e1 e2 st hS fin
    obtain rfl : i = n := by omega
    rw [show xs.take i = xs from List.take_of_length_le (by omega)] at hS
    refine codeAny_builtin F.entry_set_update_loop ?_
    rw [Around.under_plainId F.plain_set_update_loop _]
    refine wpAny_bind (m := pyNext (.ref I)) (Wk.done s _ _ st fun s' hm => ?_)
    exact wpAny_pure (fin s' (hm.mono more) (keeps (hm.heap S · notW) hS))
  | succ m ih =>
    intro i s e1 e2 st hS fin
    have lt : i < n := by omega
    refine codeAny_builtin F.entry_set_update_loop ?_
    rw [Around.under_plainId F.plain_set_update_loop _]
    refine wpAny_bind (m := pyNext (.ref I)) (Wk.item i s _ _ lt st fun v s' hP st' hm => ?_)
    obtain ⟨t, rfl⟩ := val i v hP
    have hS1 := keeps (hm.heap S · notW) hS
    refine wpAny_bind (m := holding [Value.str (xs.getD i Str.empty) t] (setAdd S (.str (xs.getD i Str.empty) t))) (wpAny_holding ?_)
    unfold setAdd
    refine wpAny_holding (wpAny_bind ((strKind prog w).pyHash (k := xs.getD i Str.empty) (strKind_is _ _ _ _) ?_))
    have room : (uniq (xs.take i)).length + 1 < scanBound := by
      have h1 := uniq_le (xs.take i)
      rw [List.length_take] at h1
      omega
    refine wpAny_setAddHashed_of (knd := strKind prog w) (s := { s' with toks := s'.toks + 1 }) (strKind_is _ _ _ _) rfl hS1 room fun h' hsb hS2 => ?_
    have hS3 : h'.SetOf (strKind prog w) S (fun k => (uniq (xs.take (i + 1))).any (· == k)) (uniq (xs.take (i + 1))).length :=
      SetOf_congr hS2 (fun k => by rw [uniq_take (by omega), stp_any]) (by rw [uniq_take (by omega), stp_len])
    have still : ∀ b, b ≠ S → ∀ o, s'.heap.get? b = some o → h'.get? b = some o := fun b nb o e => (hsb.2 b nb).symm ▸ e
    refine wpAny_pure ⟨plainId_quiet F.plain_set_update_loop _, ih (i + 1) _ (by omega) lt (Wk.frame _ s' _ _ st' (Nat.le_succ _) fun b hb o e => still b (fun q => out (q ▸ hb)) o e) hS3 fun s2 hm2 hS4 => ?_⟩
    exact fin s2 (Moved.trans Wk.gtrans ((hm.mono more).then_heap (Nat.le_succ _) fun b o hb e => still b (fun q => hb (q ▸ List.mem_cons_self)) o e) hm2) hS4
end
section
variable {prog : Program} {w : World} {A : Around} {E : Value → Shared → Prop} {s : Shared}
abbrev newSet (led : Bool) : Obj := { cls := .type "set", dict := none, data := .set #[] 0 (.fresh 0 0 led) }
theorem set_of_list {l : Addr} {its : Array Value} {xs : List Str} {Q : Value → Shared → Prop} (calm : A.handled = none) (hl : s.heap.IsList l its) (ht : StrsAre its.toList xs) (few : xs.length + 1 < scanBound)
    (h : ∀ (h' : Heap) (tk : Nat), h'.SetOf (strKind prog w) s.heap.objs.size (fun k => (uniq xs).any (· == k)) (uniq xs).length → (∀ b o, b < s.heap.objs.size → s.heap.get? b = some o → h'.get? b = some o) → Q (.ref s.heap.objs.size) { s with heap := h', toks := tk }) :
    wpAny (model prog w) A (call (.type "set") [.ref l]) Q E s := by
  obtain ⟨c, tl, hmro⟩ := PySem.F.called_set.mro
  have m1 := PySem.F.called_set.made
  have m2 := PySem.F.called_set.sub
  have m3 := PySem.F.called_set.notType
  have m4 := PySem.F.called_set.canCreate
  have m5 := PySem.F.typeCall_set_1 (.ref l)
  refine wpAny_call (codeAny_of_tree ?_)
  refine (show wpAny _ _ (callAny (Value.type "set") _) _ _ s from ?_)
  have quiet := Code.quiet_builtin (id := "type.__call__") ⟨[.type "set", .ref l], []⟩ (by decide +kernel)
  refine wpAny_pure ⟨quiet, codeAny_builtin PySem.F.entry_type_call ?_⟩
  rw [Around.under_plain (weight_type_call_type "set" [.ref l] []) rfl]
  repeat (any_goals (first | assumption | wp_step))
  have fresh : ∀ led : Bool, (s.heap.push (newSet led)).get? s.heap.objs.size = some (newSet led) := fun led => Heap.get?_push_size _ rfl
  refine codeAny_mono (code_set_new_1 (.ref l) (E := E) (Q₁ := fun ob s1 => ∃ led : Bool, ob = .ref s.heap.objs.size ∧ s1 = { s with heap := s.heap.push (newSet led) }) fun led => ⟨led, rfl, rfl⟩) fun r s1 hr => ?_
  rcases r with er | fl
  · exact hr
  cases fl with
  | ret ob =>
    obtain ⟨led, rfl, rfl⟩ := hr
    have n1 : Shared.TypeIs { s with heap := s.heap.push (newSet led) } (.ref s.heap.objs.size) "set" := ⟨_, fresh led, rfl⟩
    have n2 := PySem.F.called_set.init.lookup
    have n3 := PySem.F.called_set.init.bind (.ref s.heap.objs.size)
    repeat (any_goals (first | assumption | wp_step))
    let Done : Value → Shared → Prop := fun r s2 => r = .none ∧ ∃ h' tk, s2 = { s with heap := h', toks := tk } ∧ h'.SetOf (strKind prog w) s.heap.objs.size (fun k => (uniq xs).any (· == k)) (uniq xs).length ∧
      (∀ b o, b < s.heap.objs.size → s.heap.get? b = some o → h'.get? b = some o)
    refine codeAny_mono (codeAny_call_builtin (R := wants Done E) PySem.F.called_set.init.plain PySem.F.entry_set_init (check_set_init_1 n1 ?_)) fun r2 s2 hr2 => ?_
    · obtain ⟨⟨oc, od, odt, osl⟩, ho, hc, nl, hd⟩ := hl
      dsimp only at hc hd
      subst hc hd
      have low : l < s.heap.objs.size := Heap.lt_size ho
      have ho1 : (s.heap.push (newSet led)).get? l = some { cls := .type "list", dict := od, data := .seq its nl, slots := osl } := Heap.get?_push_of_some _ ho
      have il : (s.heap.push (newSet led)).IsList l its := ⟨_, ho1, rfl, nl, rfl⟩
      have q1 := PySem.F.sub_list_set
      have q2 := PySem.F.sub_list_frozenset
      have q3 : (Value.type "list" == Value.type "dict") = false := by decide
      unfold Builtin.«set.__init__» noKeywords Builtin.Frozenset.updateFrom
      generalize hPI : pyIter = PI
      wp_walk
      subst hPI
      refine wpAny_pyIter_list il (wpAny_bind (wpAny_runValue ?_))
      have calm3 : A.in1.in1.in1.handled = none := by simp [calm]
      have sz1 : (s.heap.push (newSet led)).objs.size = s.heap.objs.size + 1 := Heap.size_push ..
      have neI : l ≠ (s.heap.push (newSet led)).objs.size := by rw [sz1]; exact Nat.ne_of_lt (Nat.lt_succ_of_lt low)
      have outS : s.heap.objs.size ∉ [(s.heap.push (newSet led)).objs.size, l] := by
        rw [sz1]
        intro z
        rcases List.mem_cons.mp z with e | e
        · exact absurd e (Nat.ne_of_lt (Nat.lt_succ_self _))
        · exact absurd (List.mem_singleton.mp e) (Nat.ne_of_gt low)
      have len : xs.length = its.size := (StrsAre.len_eq ht).symm.trans Array.length_toList
      have vals : ∀ (i : Nat) (v : Value), its[i]? = some v → ∃ t, v = .str (xs.getD i Str.empty) t := fun i v hv => SS.strs_at ht i v ((Array.getElem?_toList ..).trans hv)
      refine set_loop (Walks.list calm3 _ l neI its).toS s.heap.objs.size outS xs len (by rw [← len]; exact few) vals (its.size - 0) 0 _ (by omega) (Nat.zero_le _) ⟨⟨_, Heap.get?_push_size _ rfl, rfl, rfl⟩, il.push _⟩ ?_ ?_
      · have at2 : ((s.heap.push (newSet led)).push { cls := .type "list_iterator", data := .fields #[.ref l, .int 0 0] }).get? s.heap.objs.size = some (newSet led) := Heap.get?_push_of_some _ (fresh led)
        exact SetOf_congr ((setObjOf_fresh (knd := strKind prog w) led).setOf at2 (by unfold scanBound; omega)) (fun _ => rfl) rfl
      · rintro ⟨h', g', d', tk', os'⟩ hm hS
        obtain rfl : g' = s.gens := hm.gens
        obtain rfl : d' = s.drawn := hm.drawn
        obtain rfl : os' = s.os := hm.os
        refine (show wpAny _ _ (pure ()) _ _ _ from wpAny_pure ?_)
        refine wpAny_pure ⟨rfl, h', tk', rfl, hS, fun b o hb e => ?_⟩
        refine hm.heap b o ?_ (Heap.get?_push_of_some _ (Heap.get?_push_of_some _ e))
        rw [sz1]
        intro z
        rcases List.mem_cons.mp z with e | e
        · exact absurd e (Nat.ne_of_lt hb)
        · exact absurd (List.mem_singleton.mp e) (Nat.ne_of_lt (Nat.lt_succ_of_lt hb))
    · rcases r2 with er | fl2
      · exact hr2
      cases fl2 with
      | ret r =>
        obtain ⟨rfl, h', tk, rfl, hS, keep⟩ := hr2
        repeat (any_goals (first | assumption | wp_step))
        exact h _ _ hS keep
      | _ => exact hr2.elim
  | _ => exact hr.elim
end
section
variable {X : Cx} {C : CC} {W : WX} {a : Expr} {ma : E D} {p p2 q pos : Pos} {k : Nat}
def dLenSet : P1
  | .lst ds, Q => ∃ ys, strsOf ds = some ys ∧ ys.length < 4000 ∧ Q (.int (uniq ys).length)
  | _, _ => False
theorem xe_lenSet (kx : Kx X C W k) (hg : Gl X "len") (hm : X.mg "len" = none) (hg2 : Gl X "set") (hm2 : X.mg "set" = none) (ha : XP X C W a ma) (h1 : S1 X a := by rfl) :
    XE X C W (.Call (.Name "len" p) [.Call (.Name "set" p2) [a] [] q] [] pos) (eb ma fun d => eP (dLenSet d)) := by
  obtain ⟨t, t1, t2⟩ := ha.ex
  refine ⟨fun σ H Q => t σ H fun x H1 => ∃ (l : Addr) (ys : List Str), x = V.ref l ∧ SqL X.K H1 l (ys.map V.str) ∧ ys.length < 4000 ∧ Q (.int (uniq ys).length) H1, ⟨fun pins s σ H Q I h => ?_⟩, ?_⟩
  · refine Call_ (ld_blt I hg hm boot_len (callWith_builtin1 (args_cons ?_ rfl) rfl rfl))
    refine Call_ (ld_blt I hg2 hm2 boot_set (callWith_type1 (args_cons (thn (t1.run pins s σ H _ I h) fun v s1 ⟨x, H1, I1, r1, q1⟩ => args_nil ?_) h1) h1 rfl))
    obtain ⟨l, ys, rfl, hs, few, q1⟩ := q1
    obtain rfl : v = Value.ref l := r1
    obtain ⟨its, r, pl, hz⟩ := I1.list hs
    refine set_of_list (I1.ok.hd kx.calm) pl.isList (xs := ys) (by simpa using strsAre_of r) (by unfold scanBound; omega) fun h' tk hS keep => args_nil ?_
    obtain ⟨o, es, ep, tb, ho, hex, hd, _, _, _, hf, hn⟩ := hS
    have I2 : Inv X pins σ H1 { s1 with heap := h', toks := tk } := I1.kept fun b o e => keep b o (Heap.lt_size e) e
    have small : (es.size : Int) < 2 ^ 63 := by
      have := uniq_le ys
      omega
    refine call_len_set ho hex hd hf small ⟨.int (uniq ys).length, H1, I2.tok _, ⟨_, by rw [hn]⟩, q1⟩
  · refine den_un (r := fun x H1 Q => ∃ (l : Addr) (ys : List Str), x = V.ref l ∧ SqL X.K H1 l (ys.map V.str) ∧ ys.length < 4000 ∧ Q (.int (uniq ys).length) H1) back_R t2 (op1_flat fun F H y dy Q Qd s ry hp hq => ?_)
    unfold dLenSet at hp
    split at hp
    · obtain ⟨ys, e1, few, w⟩ := hp
      obtain ⟨b, xs, rfl, e2, rl, _⟩ := RT.lst s ry
      obtain rfl := RpL.strs rl e1
      exact ⟨b, ys, rfl, .inl (.inl e2), few, hq _ _ w (.int _)⟩
    · exact False.elim hp
end
end DL

namespace DL
open PySem PySem.Spec PyProof.Rows L2

/-! ## dicts by keys that are texts or numbers -/
def keyD : D → Option Key
  | .int i => some (.inl i)
  | .str y => some (.inr y)
  | _ => none
def keyE : Key → D
  | .inl i => .int i
  | .inr y => .str y
/-- the look-up -/
def dlk : List Key → List D → Key → Option D
  | k :: ks, d :: ds, y => if k = y then some d else dlk ks ds y
  | _, _, _ => none
/-- a store: in its place, or at the end -/
def dputL (ks : List Key) (ds : List D) (k : Key) (y : D) : List Key × List D :=
  if (ks.any fun j => decide (j = k)) = true then (ks, List.zipWith (fun j d => if j = k then y else d) ks ds) else (ks ++ [k], ds ++ [y])
def dGet : P2
  | .dic ks ds, y, Q => ∃ k, keyD y = some k ∧ ∃ d, dlk ks ds k = some d ∧ Q d
  | _, _, _ => False
def dHas (b : Bool) : P2
  | y, .dic ks ds, Q => ∃ k, keyD y = some k ∧ Q (.bl (b != (dlk ks ds k).isSome))
  | _, _, _ => False
section
variable {K : PySem.W.Frag} {mg : Str → Option Value} {pa : Option Addr} {F : Hp}
theorem keyD_rel {C : CC} {H : Hp} {v : V} {y : D} {k : Key} (r : RT C F H v y) (e : keyD y = some k) : v = kV k := by
  cases y <;> first | (cases e) | skip
  · exact r.int
  · exact r.str
theorem valV_dlk : ∀ {ks : List Key} {ds : List D} {xs : List V} {k : Key}, RpL K mg pa F xs ds → ks.length = xs.length → (∀ d, dlk ks ds k = some d → ∃ v, valV (ks.zip xs) k = some v ∧ Rp K mg pa F v d) ∧ (dlk ks ds k = none → valV (ks.zip xs) k = none)
  | [], _, _, _, h, l => ⟨fun d e => (by simp [dlk] at e), fun _ => rfl⟩
  | j :: ks, [], _, _, h, l => by cases h; simp at l
  | j :: ks, d :: ds, _, k, h, l => by
    cases h with
    | @cons v vs _ _ a b =>
      have l' : ks.length = vs.length := by simpa using l
      by_cases e : j = k
      · refine ⟨fun d' q => ?_, fun q => ?_⟩
        · unfold dlk at q; rw [if_pos e] at q; cases q
          exact ⟨v, valV_pos (p := (j, v)) e, a⟩
        · unfold dlk at q; rw [if_pos e] at q; cases q
      · have ih := valV_dlk (k := k) b l'
        have e2 : valV ((j :: ks).zip (v :: vs)) k = valV (ks.zip vs) k := valV_neg (p := (j, v)) e
        refine ⟨fun d' q => ?_, fun q => ?_⟩
        · unfold dlk at q; rw [if_neg e] at q
          rw [e2]
          exact ih.1 d' q
        · unfold dlk at q; rw [if_neg e] at q
          rw [e2]
          exact ih.2 q
theorem valV_is {ks : List Key} {ds : List D} {xs : List V} {k : Key} (r : RpL K mg pa F xs ds) (l : ks.length = xs.length) : (valV (ks.zip xs) k).isSome = (dlk ks ds k).isSome := by
  cases e3 : dlk ks ds k with
  | none => rw [(valV_dlk (k := k) r l).2 e3]; rfl
  | some d =>
    obtain ⟨v, e4, _⟩ := (valV_dlk (k := k) r l).1 d e3
    rw [e4]; rfl
theorem zip_any {ks : List Key} {xs : List V} (k : Key) (l : ks.length = xs.length) : ((ks.zip xs).any fun kv => decide (kv.1 = k)) = ks.any fun j => decide (j = k) := by
  induction ks generalizing xs with
  | nil => rfl
  | cons j ks ih =>
    cases xs with
    | nil => simp at l
    | cons x xs =>
      simp only [List.zip_cons_cons, List.any_cons]
      rw [ih (by simpa using l)]
theorem zip_map {ks : List Key} {xs : List V} (k : Key) (y : V) (l : ks.length = xs.length) : ((ks.zip xs).map fun kv => if kv.1 = k then (kv.1, y) else kv) = ks.zip (List.zipWith (fun j d => if j = k then y else d) ks xs) := by
  induction ks generalizing xs with
  | nil => rfl
  | cons j ks ih =>
    cases xs with
    | nil => simp at l
    | cons x xs =>
      simp only [List.zip_cons_cons, List.map_cons, List.zipWith_cons_cons]
      rw [ih (by simpa using l)]
      by_cases e : j = k
      · simp [e]
      · simp [e]
theorem RpL.zw {ks : List Key} {k : Key} {v : V} {y : D} (r : Rp K mg pa F v y) : ∀ {ks : List Key} {ds : List D} {xs : List V}, RpL K mg pa F xs ds → RpL K mg pa F (List.zipWith (fun j d => if j = k then v else d) ks xs) (List.zipWith (fun j d => if j = k then y else d) ks ds)
  | [], _, _, h => by cases h <;> exact .nil
  | j :: ks, _, _, h => by
    cases h with
    | nil => exact .nil
    | cons a b =>
      rw [List.zipWith_cons_cons, List.zipWith_cons_cons]
      refine .cons ?_ (RpL.zw (ks := ks) r b)
      by_cases e : j = k
      · rw [if_pos e, if_pos e]; exact r
      · rw [if_neg e, if_neg e]; exact a
/-- a store, in the heap -/
theorem put_rel {ks : List Key} {ds : List D} {xs : List V} {k : Key} {v : V} {y : D} (h : RpL K mg pa F xs ds) (l : ks.length = xs.length) (r : Rp K mg pa F v y) :
    ∃ xs', putK (ks.zip xs) k v = (dputL ks ds k y).1.zip xs' ∧ (dputL ks ds k y).1.length = xs'.length ∧ RpL K mg pa F xs' (dputL ks ds k y).2 := by
  unfold putK dputL
  rw [zip_any k l]
  by_cases e : (ks.any fun j => decide (j = k)) = true
  · rw [if_pos e, if_pos e]
    refine ⟨_, zip_map k v l, ?_, RpL.zw (ks := ks) r h⟩
    show ks.length = _
    rw [List.length_zipWith]; omega
  · rw [if_neg e, if_neg e]
    refine ⟨xs ++ [v], ?_, ?_, RpL.app1 h r⟩
    · show _ = (ks ++ [k]).zip (xs ++ [v])
      rw [List.zip_append l]
      rfl
    · simp [l]
end
/-- a dict that is read -/
theorem RT.dic {C : CC} {F H : Hp} {v : V} {ks : List Key} {ds : List D} (s : Sub F H) (h : RT C F H v (.dic ks ds)) : ∃ a xs, v = .ref a ∧ Rd H a (.dK (ks.zip xs)) ∧ ks.length = xs.length ∧ C.RL F xs ds := by
  rcases h with h | ⟨a, o, e1, e2, e3, xs, e4, e5, e6⟩
  · cases h with
    | dic q l r => exact ⟨_, _, rfl, rdSub s q ngD, l, r⟩
  · subst e4
    exact ⟨a, xs, e1, .inl e2, e5, e6⟩
section
variable {X : Cx} {C : CC} {W : WX} {k i : Nat} {x : Str} {pos p1 p2 p3 p4 : Pos} {a b : Expr} {ma mb : E D}
theorem o_dget : Op2 C W (fun x y H Q => ∃ a v, x = .ref a ∧ DGet H a y (some v) ∧ Q v H) (fun d y => eP (dGet d y)) (kR C) := op2_flat fun F H x y dx dy Q Qd s rx ry hp hq => by
  unfold dGet at hp
  split at hp
  · obtain ⟨k, e1, d, e2, q⟩ := hp
    obtain ⟨o, xs, rfl, rd, l, r⟩ := RT.dic s rx
    obtain ⟨v, e3, rv⟩ := (valV_dlk (k := k) r l).1 d e2
    exact ⟨o, v, rfl, .inl ⟨_, k, rd, keyD_rel ry e1, e3.symm⟩, hq _ _ q rv⟩
  · exact False.elim hp
theorem o_dhas (t : Bool) : Op2 C W (fun y x H Q => ∃ a o, x = .ref a ∧ DGet H a y o ∧ Q (.bl (t != o.isSome)) H) (fun y d => eP (dHas t y d)) (kR C) := op2_flat fun F H y x dy dx Q Qd s ry rx hp hq => by
  unfold dHas at hp
  split at hp
  · obtain ⟨k, e1, q⟩ := hp
    obtain ⟨o, xs, rfl, rd, l, r⟩ := RT.dic s rx
    refine ⟨o, _, rfl, .inl ⟨_, k, rd, keyD_rel ry e1, rfl⟩, ?_⟩
    rw [valV_is (k := k) r l]
    exact hq _ _ q (.bl _)
  · exact False.elim hp
end
section
variable (d y : D) (ks : List Key) (ds : List D) (s : Str) (j : Int) (Q : D → Prop) (b : Bool)
@[simp] theorem dGet_s : dGet (.dic ks ds) (.str s) Q = ∃ d, dlk ks ds (.inr s) = some d ∧ Q d := propext ⟨fun ⟨k, e, h⟩ => by cases e; exact h, fun h => ⟨_, rfl, h⟩⟩
@[simp] theorem dGet_i : dGet (.dic ks ds) (.int j) Q = ∃ d, dlk ks ds (.inl j) = some d ∧ Q d := propext ⟨fun ⟨k, e, h⟩ => by cases e; exact h, fun h => ⟨_, rfl, h⟩⟩
@[simp] theorem dHas_s : dHas b (.str s) (.dic ks ds) Q = Q (.bl (b != (dlk ks ds (.inr s)).isSome)) := propext ⟨fun ⟨k, e, h⟩ => by cases e; exact h, fun h => ⟨_, rfl, h⟩⟩
@[simp] theorem dHas_i : dHas b (.int j) (.dic ks ds) Q = Q (.bl (b != (dlk ks ds (.inl j)).isSome)) := propext ⟨fun ⟨k, e, h⟩ => by cases e; exact h, fun h => ⟨_, rfl, h⟩⟩
end
end DL

namespace DL
open PySem PySem.Spec PyProof.Rows L2

/-! ## things that change: lists and dicts by their number -/
/-- a changing thing, as it is now -/
def dr (z : Zs) : D → D
  | .mc k => match z.cs[k]? with
    | some (.lst ds) => .lst ds
    | some (.dic ks ds) => .dic ks ds
    | some (.dit _ _) => .mc k
    | some (.raw _) => .mc k
    | some (.din _ _) => .mc k
    | none => .mc k
  | d => d
theorem dr_L {z : Zs} {k : Nat} {ds : List D} (h : z.cs[k]? = some (.lst ds)) : dr z (.mc k) = .lst ds := by
  show (match z.cs[k]? with
    | some (MC.lst ds) => D.lst ds
    | some (MC.dic ks ds) => D.dic ks ds
    | some (MC.dit _ _) => D.mc k
    | some (MC.raw _) => D.mc k
    | some (MC.din _ _) => D.mc k
    | none => D.mc k) = _
  rw [h]
theorem dr_D {z : Zs} {k : Nat} {ks : List Key} {ds : List D} (h : z.cs[k]? = some (.dic ks ds)) : dr z (.mc k) = .dic ks ds := by
  show (match z.cs[k]? with
    | some (MC.lst ds) => D.lst ds
    | some (MC.dic ks ds) => D.dic ks ds
    | some (MC.dit _ _) => D.mc k
    | some (MC.raw _) => D.mc k
    | some (MC.din _ _) => D.mc k
    | none => D.mc k) = _
  rw [h]
theorem dr_T {z : Zs} {k : Nat} {ks : List (List Key)} {ds : List D} (h : z.cs[k]? = some (.dit ks ds)) : dr z (.mc k) = .mc k := by
  show (match z.cs[k]? with
    | some (MC.lst ds) => D.lst ds
    | some (MC.dic ks ds) => D.dic ks ds
    | some (MC.dit _ _) => D.mc k
    | some (MC.raw _) => D.mc k
    | some (MC.din _ _) => D.mc k
    | none => D.mc k) = _
  rw [h]
theorem dr_R {z : Zs} {k : Nat} {u : HO} (h : z.cs[k]? = some (.raw u)) : dr z (.mc k) = .mc k := by
  show (match z.cs[k]? with
    | some (MC.lst ds) => D.lst ds
    | some (MC.dic ks ds) => D.dic ks ds
    | some (MC.dit _ _) => D.mc k
    | some (MC.raw _) => D.mc k
    | some (MC.din _ _) => D.mc k
    | none => D.mc k) = _
  rw [h]
theorem dr_N {z : Zs} {k : Nat} {ks : List NK} {ds : List D} (h : z.cs[k]? = some (.din ks ds)) : dr z (.mc k) = .mc k := by
  show (match z.cs[k]? with
    | some (MC.lst ds) => D.lst ds
    | some (MC.dic ks ds) => D.dic ks ds
    | some (MC.dit _ _) => D.mc k
    | some (MC.raw _) => D.mc k
    | some (MC.din _ _) => D.mc k
    | none => D.mc k) = _
  rw [h]
section
variable (z : Zs) (i : Int) (b : Bool) (s : Str) (ds : List D) (ks : List Key) (c : Str) (ns : List Str)
@[simp] theorem dr_1 : dr z (.int i) = .int i := rfl
@[simp] theorem dr_2 : dr z (.bl b) = .bl b := rfl
@[simp] theorem dr_3 : dr z (.str s) = .str s := rfl
@[simp] theorem dr_4 : dr z (.lst ds) = .lst ds := rfl
@[simp] theorem dr_5 : dr z (.tup ds) = .tup ds := rfl
@[simp] theorem dr_6 : dr z (.dic ks ds) = .dic ks ds := rfl
@[simp] theorem dr_7 : dr z .non = .non := rfl
@[simp] theorem dr_8 : dr z (.ins c ns ds) = .ins c ns ds := rfl
end
section
variable {C : CC} {σ : L2.St} {ρ : Rho} {F F' H H' : Hp} {z z' : Zs} {v : V} {d : D} {p : Addr} {o : HO} {c : MC}
theorem RK.dr (S : StOk C σ ρ F H z) (r : RK C F H v d) : RT C F H v (dr z d) := by
  cases d with
  | mc k =>
    rcases r with r | ⟨_, _, _, _, e, _⟩
    · cases r with
      | @mc a _ e =>
        obtain ⟨o, c, e1, e2, e3⟩ := S.cs.get e
        have npa : some a ≠ C.pa := fun w => by rw [(S.pz a w.symm).1] at e; cases e
        cases c with
        | lst ds =>
          obtain ⟨xs, rfl, r⟩ := e3
          rw [dr_L e2]
          exact .inr ⟨a, _, rfl, e1, npa, xs, rfl, r⟩
        | dic ks ds =>
          obtain ⟨xs, rfl, l, r⟩ := e3
          rw [dr_D e2]
          exact .inr ⟨a, _, rfl, e1, npa, xs, rfl, l, r⟩
        | dit ks ds =>
          rw [dr_T e2]
          exact .inl (.mc e)
        | raw u =>
          rw [dr_R e2]
          exact .inl (.mc e)
        | din ks ds =>
          rw [dr_N e2]
          exact .inl (.mc e)
    · cases e
  | _ => exact RK.now r
/-- a list of one's own becomes a thing that changes -/
theorem StOk.mark (S : StOk C σ ρ F H z) (hp : H p = some o) (hf : F p = none) (h0 : C.H0 p = none) (np : some p ≠ C.pa) (no : ∀ (i : Nat) xs, ρ[i]? = some (.own xs) → σ[i]? ≠ some (some (.ref p))) (nh : p ∉ C.hid) (hc : CO C.K C.mg C.pa F o c) :
    StOk C σ ρ (upd F p (gh z.cs.length)) H { z with cs := z.cs ++ [c] } := by
  have sub : Sub (upd F p (gh z.cs.length)) H := fun b u e n => by
    by_cases q : b = p
    · subst q; rw [upd_same] at e; cases e; exact absurd rfl (n _)
    · rw [upd_ne q] at e; exact S.sub _ _ e n
  have hk : Keep C.pa C.F0 (upd F p (gh z.cs.length)) C.H0 H := ⟨S.h0.ke, fun b k e => by
    by_cases q : b = p
    · rw [q]; exact .inr h0
    · rw [upd_ne q] at e; exact S.h0.gn b k e, S.h0.dm⟩
  have hcs : CsOk C.K C.mg C.pa (upd F p (gh z.cs.length)) H (z.cs ++ [c]) := by
    have h1 := CsOk.newC (o := o) (c := c) (p := p) (H := fun b => if b = p then none else H b) (S.cs.grow (Same.refl F) (fun _ _ e => e) fun a k u e1 e2 => by
      have ne : a ≠ p := ne_of_none e1 hf
      show (if a = p then none else H a) = _
      rw [if_neg ne]; exact e2) (by show (if p = p then none else H p) = none; rw [if_pos rfl]) hf hc
    have e : upd (fun b => if b = p then none else H b) p o = H := by
      funext b
      by_cases q : b = p
      · rw [q, upd_same, hp]
      · rw [upd_ne q, if_neg q]
    rw [e] at h1
    exact h1
  refine ⟨sub, S.f0.trans (Same.new hf), hk, fun b h1 h2 => ?_, S.len, fun i v s e1 e2 => ?_, S.apart, fun q e => ?_, fun b hb => ?_, hcs⟩
  · by_cases e : b = p
    · rw [e]; exact h0
    · rw [upd_ne e] at h1; exact S.nw b h1 h2
  · have h := S.env i v s e1 e2
    cases s with
    | no => cases v <;> trivial
    | fr d =>
      cases v with
      | none => exact h.elim
      | some v => exact Rp.mono (Same.new hf) h
    | own ds =>
      cases v with
      | none => exact h.elim
      | some v =>
        obtain ⟨a, xs, rfl, ha, hf', h0', np', r, nh'⟩ := h
        have ne : a ≠ p := fun e => no i ds e2 (by rw [e1, e])
        exact ⟨a, xs, rfl, ha, by rw [upd_ne ne]; exact hf', h0', np', RpL.mono (Same.new hf) r, nh'⟩
  · obtain ⟨h1, r⟩ := S.pz q e
    have ne : q ≠ p := fun z => np (by rw [← z, e])
    exact ⟨by rw [upd_ne ne]; exact h1, r⟩
  · obtain ⟨h1, r⟩ := S.hd b hb
    have ne : b ≠ p := fun z => nh (by rw [← z]; exact hb)
    exact ⟨by rw [upd_ne ne]; exact h1, r⟩
theorem keep_mark {pa : Option Addr} {k : Nat} (h : Keep pa F F' H H') (hp : H p = none) : Keep pa F (upd F' p (gh k)) H H' := ⟨h.ke, fun b j e => by
  by_cases q : b = p
  · rw [q]; exact .inr hp
  · rw [upd_ne q] at e; exact h.gn b j e, h.dm⟩
end
section
variable {X : Cx} {C : CC} {W : WX} {e a b : Expr} {es : List Expr} {m ma mb : E D} {mo : E (List D)} {pos p p1 p2 p3 : Pos} {k : Nat} {x : Str}
def fNewL (ds : List D) : E D := fun ρ Q _ z => Q (.mc z.cs.length) ρ { z with cs := z.cs ++ [.lst ds] }
def fNewD (ks : List Key) (ds : List D) : E D := fun ρ Q _ z => Q (.mc z.cs.length) ρ { z with cs := z.cs ++ [.dic ks ds] }
/-- a new list that will change -/
theorem xe_cellL (h : XO X C W e mo) : XE X C W e (eb mo fNewL) := by
  obtain ⟨t, h1, h2⟩ := h.ex
  refine ⟨t, h1, fun σ ρ F H z Qd Xd Q S hm hq hx => h2 σ ρ F H z _ Xd Q S hm (fun ds ρ' z' b F' H' q S' ff hk ol ⟨a, xs, e1, e2, e3, e4, e5, e6⟩ => ?_) hx⟩
  subst e1
  exact hq _ ρ' _ _ _ H' q (S'.mark (c := .lst ds) e2 e3 (S.h0None e4 e5) e5 (S.notOwn e4 ol) (S.notHid e4) ⟨xs, rfl, e6⟩) (ff.trans (Same.new e3)) (keep_mark hk e4) ol (.mc upd_same)
/-- {} -/
theorem xe_cellD0 : XE X C W (.Dict [] [] pos) (fNewD [] []) := by
  refine ⟨_, pe_dnewK, fun σ ρ F H z Qd Xd Q S hm hq hx => fun q hn => ?_⟩
  exact hq _ ρ _ _ _ _ hm (S.newC (c := .dic [] []) hn ⟨[], rfl, rfl, .nil⟩) (Same.new (S.free hn)) (Keep.newF hn) Ole.refl (.mc upd_same)

/-! ### reading -/
theorem den_opZ {α : Type} {ta tb : TE} {r : R2} {f : D → D → E α} {R : Hp → Hp → Hp → V → α → Prop} (hB : Back C R) (ha : Den C W ta ma (kT C)) (hb : Den C W tb mb (kT C)) (ho : Op2 C W r f R) :
    Den C W (tOp r ta tb) (eb ma fun x => eb mb fun y => fun ρ Q X z => f (dr z x) (dr z y) ρ Q X z) R :=
  Den.bind (u := fun x σ H Q => tb σ H fun y H2 => r x y H2 Q) hB ha fun H0 σ ρ F H z a x Qd Xd Q S ra hm hq hx =>
    hb σ ρ F H z _ Xd _ S hm (fun d ρ2 z2 y F2 H2 q2 S2 ff2 k2 o2 rb => ho σ ρ2 F2 H2 z2 x y _ _ Qd Xd Q S2 ((ra.keep ff2 k2).dr S2) (rb.dr S2) q2
        (fun c ρ' z' d' F' H' q' S' ff' k' o' r' => hq c ρ' z' d' F' H' q' S' (ff2.trans ff') (k2.trans k') (o'.trans o2) (hB _ _ _ _ _ _ k2.dm r'))
        (fun e ρ' z' cls dd F' H' q' S' ff' r' => hx e ρ' z' cls dd F' H' q' S' (ff2.trans ff') r'))
      hx
theorem den_unZ {α β : Type} {ta : TE} {r : V → Hp → (β → Hp → Prop) → Prop} {f : D → E α} {R : Hp → Hp → Hp → β → α → Prop} (hB : Back C R) (ha : Den C W ta ma (kT C)) (ho : Op1 C W r f R) :
    Den C W (fun σ H Q => ta σ H fun x H1 => r x H1 Q) (eb ma fun x => fun ρ Q X z => f (dr z x) ρ Q X z) R :=
  Den.bind (u := fun x _ H Q => r x H Q) hB ha fun H0 σ ρ F H z a x Qd Xd Q S ra hm hq hx => ho σ ρ F H z x _ Qd Xd Q S (ra.dr S) hm hq hx
abbrev bZ (f : P2) (ma mb : E D) : E D := eb ma fun x => eb mb fun y => fun ρ Q _ z => f (dr z x) (dr z y) fun d => Q d ρ z
abbrev cZ (ma mb : E D) : E (List D) := eb ma fun x => eb mb fun y => fun ρ Q _ z => dCat (dr z x) (dr z y) fun d => Q d ρ z
abbrev uZ (f : P1) (ma : E D) : E D := eb ma fun x => fun ρ Q _ z => f (dr z x) fun d => Q d ρ z
abbrev lZ (f : D → E (List D)) (ma : E D) : E (List D) := eb ma fun x => fun ρ Q X z => f (dr z x) ρ Q X z
theorem xe_ixZ (hK : X.K = C.K) (ha : XP X C W a ma) (hb : XP X C W b mb) (hs : PlainIx b) : XE X C W (.Subscript a b pos) (bZ dIx ma mb) := by
  obtain ⟨ta, a1, a2⟩ := ha.ex
  obtain ⟨tb, b1, b2⟩ := hb.ex
  refine ⟨_, pe_ix ix_seq a1 b1 hs, ?_⟩
  rw [hK]
  exact den_opZ back_R a2 b2 o_ix
theorem xe_dgetZ (kx : Kx X C W k) (ha : XP X C W a ma) (hb : XP X C W b mb) (hs : NoSl b) : XE X C W (.Subscript a b pos) (bZ dGet ma mb) := by
  obtain ⟨ta, a1, a2⟩ := ha.ex
  obtain ⟨tb, b1, b2⟩ := hb.ex
  exact ⟨_, pe_dget (by have := kx.hu; omega) a1 b1 hs, den_opZ back_R a2 b2 o_dget⟩
theorem xt_dnotZ (kx : Kx X C W k) (ha : XP X C W a ma) (hb : XP X C W b mb) (hm : behindInMarks .NotIn b = false := by rfl) : XT X C W (.Compare a [.NotIn] [b] pos) (eT (bZ (dHas true) ma mb)) := by
  obtain ⟨ta, a1, a2⟩ := ha.ex
  obtain ⟨tb, b1, b2⟩ := hb.ex
  refine ⟨_, pt_cmp (pc_dnotin (by have := kx.hu; omega) a1 b1) hm, den_test ?_⟩
  have := den_opZ (W := W) back_R a2 b2 (o_dhas (C := C) true)
  simp only [Bool.true_bne] at this
  exact this
theorem xe_b1Z {id : String} {r : List V → Hp → VK → Prop} {f : D → E D} (hc : CallR X (.builtin id) r) (ho : Op1 C W (fun x H Q => r [x] H Q) f (kR C)) (ha : XP X C W a ma) (hg : Gl X x) (hm : X.mg x = none) (hv : bootBuiltins x = some (.builtin id)) (hn : x ≠ "__name__" := by decide) (hdb : (x == ("__debug__" : Str)) = false := by decide) (h1 : S1 X a := by rfl) :
    XE X C W (.Call (.Name x p) [a] [] pos) (eb ma fun y => fun ρ Q X z => f (dr z y) ρ Q X z) := by
  obtain ⟨ta, a1, a2⟩ := ha.ex
  exact ⟨_, pe_callB hc hg hm hv (pa1 a1 h1) hn hdb h1, den_unZ (r := fun x H Q => r [x] H Q) back_R a2 ho⟩
theorem xe_lenZ (hK : X.K = C.K) (hg : Gl X "len") (hm : X.mg "len" = none) (ha : XP X C W a ma) (h1 : S1 X a := by rfl) : XE X C W (.Call (.Name "len" p) [a] [] pos) (eb ma fun y => fun ρ Q _ z => dLen (dr z y) fun d => Q d ρ z) :=
  xe_b1Z (f := fun d => eP (dLen d)) call_len (by rw [hK]; exact o_len) ha hg hm rfl (by decide) (by decide) h1
/-- list(a dict): its keys -/
def fKeys : D → E (List D)
  | .dic ks _ => ep (ks.map keyE)
  | _ => eStuck
def fAppC (m : E D) : D → E Fl
  | .mc k => fun ρ Q X z => (∃ ds, z.cs[k]? = some (.lst ds)) ∧ m ρ (fun y ρ' z' => ∃ ds, z'.cs[k]? = some (.lst ds) ∧ ds.length < 16777216 ∧ Q .nx ρ' { z' with cs := z'.cs.set k (.lst (ds ++ [y])) }) X z
  | _ => eStuck
theorem xs_appC (kx : Kx X C W k) (hb : XE X C W b mb) (ha : XE X C W e m) (h1 : S1 X e := by rfl)
    (hbase : attributeBase b "append" X.env (eval b X.env) = eval b X.env := by rfl)
    (hfew : ((backTo p2 (starEach (e :: []) X.env)).all (fun x => !x.1) && (backToKw p2 (keywordEach [] X.env)).all (fun x => x.1.isSome)
      && decide ((e :: ([] : List Expr)).length + ([] : List Keyword).length + (if ([] : List Keyword).isEmpty then 0 else 1) < 30)) = true := by rfl)
    (hline : (p1.endLine == p2.line) = true := by rfl) (hs : swapsWith (.Call (.Attribute b "append" p1) [e] [] p2) none p3.line X.env = pure false := by rfl) :
    XS X C W (.Expr (.Call (.Attribute b "append" p1) [e] [] p2) p3) (eb mb (fAppC m)) := by
  obtain ⟨t, t1, t2⟩ := ha.ex
  obtain ⟨u, u1, u2⟩ := hb.ex
  refine ⟨_, ps_expr (pe_bm PySem.F.plainAttrs_list F.slot_list_append F.type_list_append mt_append u1 (pa1 t1 h1) hbase hfew hline h1 rfl) hs, fun σ ρ F H z Qd Xd Dn S hm hq hx => ?_⟩
  refine u2 σ ρ F H z _ Xd _ S hm (fun d ρ1 z1 v F1 H1 q1 S1 ff1 k1 o1 r1 => ?_) (fun e ρ' z' cls dd F' H' q S' ff r => hx e ρ' z' cls dd σ F' H' q S' ff r)
  cases d with
  | mc k =>
    cases r1 with
    | @mc l _ eg =>
      obtain ⟨⟨ds0, eq0⟩, q1⟩ := q1
      obtain ⟨o, c, e1, e2, e3⟩ := S1.cs.get eg
      rw [eq0] at e2
      cases e2
      obtain ⟨xs0, rfl, r0⟩ := e3
      refine ⟨.inl ⟨rfl, xs0, .inl (.inl e1)⟩, ?_⟩
      refine t2 σ ρ1 F1 H1 z1 _ Xd (fun y H1 => rAppend (.ref l) [y] H1 fun _ H2 => Dn.nx σ H2) S1 q1 (fun y ρ2 z2 v F2 H2 q2 S2 ff2 k2 o2 r2 => ?_) (fun e ρ' z' cls dd F' H' q S' ff r => hx e ρ' z' cls dd σ F' H' q S' (ff1.trans ff) r)
      obtain ⟨ds, eq1, hl, q2⟩ := q2
      have eg2 : F2 l = some (gh k) := ff2 _ _ eg
      obtain ⟨o', c', f1, f2, f3⟩ := S2.cs.get eg2
      rw [eq1] at f2
      cases f2
      obtain ⟨xs, rfl, rr⟩ := f3
      refine ⟨l, xs, v, rfl, rfl, f1, by rw [RpL.length rr, sizeLine_eq]; exact hl, ?_⟩
      exact hq .nx _ _ F2 _ q2 (ff1.trans ff2) σ (S2.setC (c := .lst (ds ++ [y])) eg2 ⟨xs ++ [v], rfl, RpL.app1 rr r2⟩)
  | _ => exact False.elim q1
/-- b.reverse(), b.clear() -/
def fMtC (f : List D → List D) : D → E Fl
  | .mc k => fun ρ Q X z => ∃ ds, z.cs[k]? = some (.lst ds) ∧ Q .nx ρ { z with cs := z.cs.set k (.lst (f ds)) }
  | _ => eStuck
/-- b[i] = y, a list -/
def fSetL (y b i : D) : E Fl := fun ρ Q _ z => match b, i with
  | .mc k, .int j => ∃ ds n, z.cs[k]? = some (.lst ds) ∧ ixN ds.length j = some n ∧ Q .nx ρ { z with cs := z.cs.set k (.lst (ds.set n y)) }
  | _, _ => False
def sSetC (f : D → D → D → E Fl) (mv mb mi : E D) : E Fl := eb mv fun y => eb mb fun b => eb mi fun i => f y b i
theorem xs_setC {mv mi : E D} {v : Expr} (hb : XE X C W b mb) (ha : XE X C W v mv) (hi : XE X C W e mi) (hs : swapsWithSole [.Subscript b e p1] v pos.line X.env = pure false := by rfl) (hw : swappedStores [.Subscript b e p1] v X.env = pure none := by rfl)
    (hset : ∀ w, assign (.Subscript b e p1) X.env w = (do
      let ov ← holding [w] (eval b X.env)
      let iv ← holding [w, ov] (eval e X.env)
      standAt p1
      holding [w, ov, iv] (setItem ov iv w)
      release [w, ov, iv] []) := by intro _; rfl)
    (h1 : (assignEach [.Subscript b e p1] X.env).map (·.2) = [assign (.Subscript b e p1) X.env] := by rfl) :
    XS X C W (.Assign [.Subscript b e p1] v pos) (sSetC fSetL mv mb mi) := by
  obtain ⟨t, t1, t2⟩ := ha.ex
  obtain ⟨w, w1, w2⟩ := hb.ex
  obtain ⟨u, u1, u2⟩ := hi.ex
  refine ⟨_, ps_asg t1 (pg_sub w1 u1 set_list hset) hs hw h1, fun σ ρ F H z Qd Xd Dn S hm hq hx => ?_⟩
  refine t2 σ ρ F H z _ Xd (fun y H1 => gSub w u rSetL y σ H1 Dn.nx) S hm (fun y ρ1 z1 v F1 H1 q1 S1 ff1 k1 o1 r1 => ?_) (fun e ρ' z' cls dd F' H' q S' ff r => hx e ρ' z' cls dd σ F' H' q S' ff r)
  refine w2 σ ρ1 F1 H1 z1 _ Xd _ S1 q1 (fun d ρ2 z2 vb F2 H2 q2 S2 ff2 k2 o2 r2 => ?_) (fun e ρ' z' cls dd F' H' q S' ff r => hx e ρ' z' cls dd σ F' H' q S' (ff1.trans ff) r)
  refine u2 σ ρ2 F2 H2 z2 _ Xd _ S2 q2 (fun di ρ3 z3 vi F3 H3 q3 S3 ff3 k3 o3 r3 => ?_) (fun e ρ' z' cls dd F' H' q S' ff r => hx e ρ' z' cls dd σ F' H' q S' (ff1.trans (ff2.trans ff)) r)
  dsimp only [fSetL] at q3
  split at q3
  · rename_i k j
    obtain ⟨ds, n, eq0, ix, q3⟩ := q3
    cases r2 with
    | @mc l _ eg =>
      cases r3
      have eg3 : F3 l = some (gh k) := ff3 _ _ eg
      obtain ⟨o, c, e1, e2, e3⟩ := S3.cs.get eg3
      rw [eq0] at e2
      cases e2
      obtain ⟨xs, rfl, rr⟩ := e3
      refine ⟨l, xs, j, n, rfl, rfl, e1, by rw [RpL.length rr]; exact ix, ?_⟩
      exact hq .nx _ _ F3 _ q3 (ff1.trans (ff2.trans ff3)) σ (S3.setC (c := .lst (ds.set n y)) eg3 ⟨_, rfl, RpL.set n rr (Rp.mono (ff2.trans ff3) r1)⟩)
  · exact False.elim q3
/-- b[i] = y, a dict -/
def fSetD (y b i : D) : E Fl := fun ρ Q _ z => match b with
  | .mc k => ∃ ks ds key, z.cs[k]? = some (.dic ks ds) ∧ keyD i = some key ∧ ks.length < 16777216 ∧ Q .nx ρ { z with cs := z.cs.set k (.dic (dputL ks ds key y).1 (dputL ks ds key y).2) }
  | _ => False
theorem xs_setD {mv mi : E D} {v : Expr} (kx : Kx X C W k) (hb : XE X C W b mb) (ha : XE X C W v mv) (hi : XE X C W e mi) (hs : swapsWith v (some (.Subscript b e p1)) pos.line X.env = pure false := by rfl) :
    XS X C W (.Assign [.Subscript b e p1] v pos) (sSetC fSetD mv mb mi) := by
  obtain ⟨t, t1, t2⟩ := ha.ex
  obtain ⟨w, w1, w2⟩ := hb.ex
  obtain ⟨u, u1, u2⟩ := hi.ex
  refine ⟨_, ps_dput (by have := kx.hu; omega) w1 u1 t1 hs, fun σ ρ F H z Qd Xd Dn S hm hq hx => ?_⟩
  refine t2 σ ρ F H z _ Xd _ S hm (fun y ρ1 z1 v F1 H1 q1 S1 ff1 k1 o1 r1 => ?_) (fun e ρ' z' cls dd F' H' q S' ff r => hx e ρ' z' cls dd σ F' H' q S' ff r)
  refine w2 σ ρ1 F1 H1 z1 _ Xd _ S1 q1 (fun d ρ2 z2 vb F2 H2 q2 S2 ff2 k2 o2 r2 => ?_) (fun e ρ' z' cls dd F' H' q S' ff r => hx e ρ' z' cls dd σ F' H' q S' (ff1.trans ff) r)
  refine u2 σ ρ2 F2 H2 z2 _ Xd _ S2 q2 (fun di ρ3 z3 vi F3 H3 q3 S3 ff3 k3 o3 r3 => ?_) (fun e ρ' z' cls dd F' H' q S' ff r => hx e ρ' z' cls dd σ F' H' q S' (ff1.trans (ff2.trans ff)) r)
  dsimp only [fSetD] at q3
  split at q3
  · rename_i k
    obtain ⟨ks, ds, key, eq0, ek, hl, q3⟩ := q3
    cases r2 with
    | @mc l _ eg =>
      have eg3 : F3 l = some (gh k) := ff3 _ _ eg
      obtain ⟨o, c, e1, e2, e3⟩ := S3.cs.get eg3
      rw [eq0] at e2
      cases e2
      obtain ⟨xs, rfl, ll, rr⟩ := e3
      have rk : vi = kV key := keyD_rel (C := C) (F := F3) (H := H3) (.inl r3) ek
      subst rk
      obtain ⟨xs', p1, p2, p3⟩ := put_rel (k := key) rr ll (Rp.mono (ff2.trans ff3) r1)
      refine ⟨l, _, rfl, DPut.k (k := key) e1 (by rw [List.length_zip, sizeLine_eq]; omega), ?_⟩
      rw [p1]
      exact hq .nx _ _ F3 _ q3 (ff1.trans (ff2.trans ff3)) σ (S3.setC (c := .dic (dputL ks ds key y).1 (dputL ks ds key y).2) eg3 ⟨xs', rfl, p2, p3⟩)
  · exact False.elim q3
end
end DL

namespace DL
open PySem PySem.Spec PyProof.Rows L2

/-! ## what is not meant here: no reading -/
section
variable {X : Cx} {C : CC} {W : WX} {e : Expr} {es : List Expr} {st : Stmt}
end
@[simp] theorem eStuck_a {α : Type} (ρ : Rho) (Q : α → Rho → Zs → Prop) (X : Er → Rho → Zs → Prop) (z : Zs) : (eStuck : E α) ρ Q X z = False := propext Iff.rfl

/-! ## is True, of any plain value -/
def plV : V → Bool
  | .non => true
  | .int _ => true
  | .str _ => true
  | _ => false
theorem op_isBX {X : Cx} : OpR X (compareOp .Is) (fun x y H Q => ∃ b, y = .bl b ∧ ((∃ a, x = .bl a ∧ Q (.bl (decide (a = b))) H) ∨ (plV x = true ∧ Q (.bl false) H))) := by
  intro pins s σ H x y v u Q I rx ry h
  obtain ⟨b, rfl, h⟩ := h
  rcases h with ⟨a, rfl, q⟩ | ⟨p, q⟩
  · exact op_is_bl pins s σ H _ _ v u Q I rx ry ⟨a, b, rfl, rfl, q⟩
  · cases (show u = Value.bool b from ry)
    cases x <;> first | cases p | skip
    · cases (show v = Value.none from rx)
      exact wpAny_is_other rfl (fun z => by cases z) ⟨.bl false, H, I, rfl, q⟩
    · obtain ⟨t, rfl⟩ := rx
      exact wpAny_is_other rfl (fun z => by cases z) ⟨.bl false, H, I, rfl, q⟩
    · obtain ⟨t, rfl⟩ := rx
      exact wpAny_is_other rfl (fun z => by cases z) ⟨.bl false, H, I, rfl, q⟩
def dIsBX : P2
  | .bl a, .bl b, Q => Q (.bl (decide (a = b)))
  | .non, .bl _, Q => Q (.bl false)
  | .int _, .bl _, Q => Q (.bl false)
  | .str _, .bl _, Q => Q (.bl false)
  | _, _, _ => False
theorem o_isBX {C : CC} {W : WX} : Op2 C W (fun x y H Q => ∃ b, y = .bl b ∧ ((∃ a, x = .bl a ∧ Q (.bl (decide (a = b))) H) ∨ (plV x = true ∧ Q (.bl false) H))) (fun a b => eP (dIsBX a b)) (kR C) := op2_flat fun F H x y dx dy Q Qd s rx ry hp hq => by
  cases dx <;> cases dy <;> first | exact hp.elim | skip
  · obtain rfl := rx.non
    exact ⟨_, ry.bl, .inr ⟨rfl, hq _ _ hp (.bl _)⟩⟩
  · exact ⟨_, ry.bl, .inl ⟨_, rx.bl, hq _ _ hp (.bl _)⟩⟩
  · obtain rfl := rx.int
    exact ⟨_, ry.bl, .inr ⟨rfl, hq _ _ hp (.bl _)⟩⟩
  · obtain rfl := rx.str
    exact ⟨_, ry.bl, .inr ⟨rfl, hq _ _ hp (.bl _)⟩⟩
section
variable (a b : Bool) (i : Int) (s : Str) (Q : D → Prop)
@[simp] theorem dIsBX_1 : dIsBX (.bl a) (.bl b) Q = Q (.bl (decide (a = b))) := propext Iff.rfl
@[simp] theorem dIsBX_2 : dIsBX .non (.bl b) Q = Q (.bl false) := propext Iff.rfl
@[simp] theorem dIsBX_3 : dIsBX (.int i) (.bl b) Q = Q (.bl false) := propext Iff.rfl
@[simp] theorem dIsBX_4 : dIsBX (.str s) (.bl b) Q = Q (.bl false) := propext Iff.rfl
end

/-! ## a class of the module, as callers use it; its methods and getters -/
structure GCn (P : Program) (w : World) (K : PySem.W.Frag) (mg : Str → Option Value) (base : Heap) (x : Str) (A : Addr) (j : Nat) (g : Addr) (fd : FuncData) (ps : List Str) (sp : Sp) : Prop where
  fn : FnG P w K mg base j g fd ps sp
  mg : mg x = some (.ref A)
  mkr : Mk K A g
  cls : Cls K A
  bg : BG K fd ps [] ps.length gL gL
theorem GCn.g {X : Cx} {x : Str} {A : Addr} {j : Nat} {g : Addr} {fd : FuncData} {ps : List Str} {sp : Sp} (h : GCn X.prog X.w X.K X.mg X.base x A j g fd ps sp) : GC X x A j g fd ps sp := ⟨h.fn, h.mg, h.mkr, h.cls⟩
structure GMn (P : Program) (w : World) (K : PySem.W.Frag) (mg : Str → Option Value) (base : Heap) (j : Nat) (g : Addr) (fd : FuncData) (ps : List Str) (sp : Sp) : Prop where
  fn : FnG P w K mg base j g fd ps sp
  bg : BG K fd ps [] ps.length gL gL
theorem GMn.g {X : Cx} {j : Nat} {g : Addr} {fd : FuncData} {ps : List Str} {sp : Sp} (h : GMn X.prog X.w X.K X.mg X.base j g fd ps sp) : GM X j g fd ps sp := ⟨h.fn, h.bg⟩
section
variable (c : Str) (ns : List Str) (n m : Nat) (mi : List D → E0 (List D)) (ml mk : E (List D)) (f : Str) (ds vs : List D) (md : List D → E0 D) (mo : List D → E0 (List D)) (ρ : Rho) (Qd : D → Rho → Zs → Prop) (Ql : List D → Rho → Zs → Prop) (X : Er → Rho → Zs → Prop) (z : Zs) (Q : D → Prop)
@[simp] theorem eNew_a : eNew c ns n m mi ml mk ρ Qd X z = ml ρ (fun ds ρ1 z1 => mk ρ1 (fun es ρ2 z2 => ds.length = n ∧ es.length = m ∧ mi (ds ++ es) (fun fs z' => fs.length = ns.length ∧ Qd (.ins c ns fs) ρ2 z') (fun e z' => X e ρ2 z') z2) X z1) X z := propext Iff.rfl
@[simp] theorem fProp_a : fProp c md (.ins c ns vs) ρ Qd X z = md [.ins c ns vs] (fun r z' => Qd r ρ z') (fun _ _ => False) z := propext ⟨fun h => h.2, fun h => ⟨⟨_, _, rfl⟩, h⟩⟩
@[simp] theorem fProp_o : fProp c mo (.ins c ns vs) ρ Ql X z = mo [.ins c ns vs] (fun r z' => Ql r ρ z') (fun _ _ => False) z := propext ⟨fun h => h.2, fun h => ⟨⟨_, _, rfl⟩, h⟩⟩
@[simp] theorem dFld_a : dFld c f (.ins c ns vs) Q = ∃ d, lkp f ns vs = some d ∧ Q d := propext ⟨fun h => h.2, fun h => ⟨rfl, h⟩⟩
end
section
variable (ds : List D) (ks : List Key) (ρ : Rho) (Qd : D → Rho → Zs → Prop) (Ql : List D → Rho → Zs → Prop) (Qf : Fl → Rho → Zs → Prop) (X : Er → Rho → Zs → Prop) (z : Zs) (mv mb mi : E D) (m : E D) (k : Nat) (j : Int) (y : D) (f : List D → List D)
@[simp] theorem fNewL_a : fNewL ds ρ Qd X z = Qd (.mc z.cs.length) ρ { z with cs := z.cs ++ [.lst ds] } := propext Iff.rfl
@[simp] theorem fNewD_a : fNewD ks ds ρ Qd X z = Qd (.mc z.cs.length) ρ { z with cs := z.cs ++ [.dic ks ds] } := propext Iff.rfl
@[simp] theorem sSetC_a (g : D → D → D → E Fl) : sSetC g mv mb mi ρ Qf X z = mv ρ (fun y ρ1 z1 => mb ρ1 (fun b ρ2 z2 => mi ρ2 (fun i ρ3 z3 => g y b i ρ3 Qf X z3) X z2) X z1) X z := propext Iff.rfl
@[simp] theorem fSetL_a : fSetL y (.mc k) (.int j) ρ Qf X z = ∃ ds n, z.cs[k]? = some (.lst ds) ∧ ixN ds.length j = some n ∧ Qf .nx ρ { z with cs := z.cs.set k (.lst (ds.set n y)) } := propext Iff.rfl
@[simp] theorem fSetD_a (i : D) : fSetD y (.mc k) i ρ Qf X z = ∃ ks ds key, z.cs[k]? = some (.dic ks ds) ∧ keyD i = some key ∧ ks.length < 16777216 ∧ Qf .nx ρ { z with cs := z.cs.set k (.dic (dputL ks ds key y).1 (dputL ks ds key y).2) } := propext Iff.rfl
@[simp] theorem fAppC_a : fAppC m (.mc k) ρ Qf X z = ((∃ ds, z.cs[k]? = some (.lst ds)) ∧ m ρ (fun y ρ' z' => ∃ ds, z'.cs[k]? = some (.lst ds) ∧ ds.length < 16777216 ∧ Qf .nx ρ' { z' with cs := z'.cs.set k (.lst (ds ++ [y])) }) X z) := propext Iff.rfl
@[simp] theorem fMtC_a : fMtC f (.mc k) ρ Qf X z = ∃ ds, z.cs[k]? = some (.lst ds) ∧ Qf .nx ρ { z with cs := z.cs.set k (.lst (f ds)) } := propext Iff.rfl
@[simp] theorem fKeys_a : fKeys (.dic ks ds) ρ Ql X z = Ql (ks.map keyE) ρ z := propext Iff.rfl
end
abbrev gKW {α : Type} : List α → List α → List α := fun a b => a ++ b
/-- one by position, the others by keywords in the parameters' order -/
theorem bg_kwI {K : PySem.W.Frag} {x qual : Str} {params : Arguments} {body : List Stmt} {scope : Scope} {kws : List (Str × V)} {f : Addr} {fd : FuncData} {ps ks : List Str} (F : FunD K x qual params body scope [] kws f fd)
    (h : ∀ (kV doc pm : Value) (an : Option Addr) (cdv ct : Value) (us ws : List Value), us.length = 1 → ws.length = ks.length → bindArgs (PySem.W.fnOf x qual params body scope .none kV doc pm an cdv ct) ⟨us, ks.zip ws⟩ = pure (ps.zip (us ++ ws))) : BG K fd ps ks 1 gKW gKW := by
  obtain ⟨oc, od, dV, kV, doc, pm, an, cdv, ct, osl, rfl, lk, hcd, hD, hK⟩ := F.ex
  rcases hD with ⟨_, rfl⟩ | ⟨e, _⟩
  · exact ⟨fun s us ws X l1 l2 => ⟨_, .of_eq (h kV doc pm an cdv ct us ws l1 l2), fun vs zs r1 r2 => r1.append r2⟩, fun mg pa F vs ds zs es r1 r2 => RpL.append r1 r2⟩
  · exact absurd rfl e
end DL

namespace DL
open PySem PySem.Spec PyProof.Rows L2

/-! ## sorted, of data of one shape -/
def dle (a b : D) : Bool := PySem.W.dataLe false D.py a b
def fSortD : D → E (List D)
  | .lst ds => fun ρ Q _ z => (isPyL ds = true ∧ PySem.W.AllAlike (pyL ds) ∧ PySem.W.Sortable (pyL ds) ∧ (∀ d ∈ pyL ds, d.depth ≤ 60) ∧ ds.length ≤ 16777216) ∧ Q (ds.mergeSort dle) ρ z
  | _ => eStuck
abbrev vd (xs : List V) (ds : List PyData) : List (V × PyData) := (xs.zip ds).mergeSort (PySem.W.dataLe false Prod.snd)
def rSortD (K : PySem.W.Frag) : List V → Hp → VK → Prop := fun vs H Q => ∃ (a : Addr) (xs : List V) (ds : List PyData), vs = [V.ref a] ∧ SqL K H a xs ∧ DpAll K H xs ds ∧ PySem.W.AllAlike ds ∧ PySem.W.Sortable ds ∧ (∀ d ∈ ds, d.depth ≤ 60) ∧
  ∀ p, H p = none → Q (.ref p) (upd H p (.lst ((vd xs ds).map (·.1))))
theorem dpAll_len {K : PySem.W.Frag} {H : Hp} : ∀ {xs : List V} {ds : List PyData}, DpAll K H xs ds → xs.length = ds.length
  | _, _, .nil => rfl
  | _, _, .cons _ t => by simp [dpAll_len t]
theorem each_zip {X : Cx} {pins : List (Addr × Obj)} {σ : L2.St} {H : Hp} {s : Shared} (I : Inv X pins σ H s) : ∀ {xs : List V} {us : List Value} {ds : List PyData}, Vals xs us → DpAll X.K H xs ds →
    PySem.W.EachIs (fun u (b : V × PyData) => RelV b.1 u) us (xs.zip ds) ∧ PySem.W.EachIs (fun u (b : V × PyData) => ∃ as, Reads s.heap u b.2 as) us (xs.zip ds)
  | _, _, _, .nil, .nil => ⟨.nil, .nil⟩
  | _, _, _, .cons r t, .cons h q => ⟨.cons r (each_zip I t q).1, .cons (Dp.reads I _ _ _ h r) (each_zip I t q).2⟩
theorem each_vals : ∀ {us : List Value} {bs : List (V × PyData)}, PySem.W.EachIs (fun u (b : V × PyData) => RelV b.1 u) us bs → Vals (bs.map (·.1)) us
  | _, _, .nil => .nil
  | _, _, .cons r t => .cons r (each_vals t)
theorem call_sortD {X : Cx} (hu : X.A.units + 65 < cLine) : CallR X (.builtin "sorted") (rSortD X.K) := by
  intro pins s σ H vs us Q I r h
  obtain ⟨a, xs, ds, rfl, hs, hd, hal, hso, hdp, q⟩ := h
  obtain ⟨its, rv, hl, hz⟩ := I.list hs
  rw [Vals.ref1 r]
  have el := dpAll_len hd
  have ev : (xs.zip ds).map Prod.snd = ds := List.map_snd_zip (by omega)
  obtain ⟨e1, e2⟩ := each_zip I rv hd
  refine PySem.W.sorted_data (bs := xs.zip ds) (enc := Prod.snd) hl.isList e1 e2 (by rw [ev]; exact hal) (by rw [ev]; exact hso) (by rw [List.length_zip]; omega) (fun b hb => ?_) fun out ho eo => ?_
  · have := hdp b.2 (by rw [← ev]; exact List.mem_map.mpr ⟨b, hb, rfl⟩)
    omega
  · obtain ⟨ep, he'⟩ := PyProof.Rows.sortedAll_at s.heap its (List.toArray out)
    have hlen : ((vd xs ds).map (·.1)).length ≤ sizeLine := by
      rw [List.length_map, List.length_mergeSort, List.length_zip]; omega
    have hv := each_vals eo
    refine ⟨.ref _, upd H (s.heap.objs.size + 1) (.lst ((vd xs ds).map (·.1))), I.laid (t' := s.toks) (fun _ _ => PyProof.Rows.sortedAll_old) (Nat.le_succ _) ⟨hlen, out, ep, hv, he'⟩, rfl, q _ (I.hok.fresh (Nat.le_succ _))⟩
theorem pyL_map (ds : List D) : pyL ds = ds.map D.py := by
  induction ds with
  | nil => rfl
  | cons d r ih => show d.py :: pyL r = _; rw [ih]; rfl
theorem RpL.zipI {K : PySem.W.Frag} {mg : Str → Option Value} {pa : Option Addr} {F : Hp} : ∀ {xs : List V} {ds : List D}, RpL K mg pa F xs ds → ∀ b ∈ xs.zip ds, Rp K mg pa F b.1 b.2
  | _, _, .nil, b, h => by simp at h
  | _, _, .cons r t, b, h => by
    rw [List.zip_cons_cons] at h
    rcases List.mem_cons.mp h with e | h
    · rw [e]; exact r
    · exact RpL.zipI t b h
theorem RpL.ofI {K : PySem.W.Frag} {mg : Str → Option Value} {pa : Option Addr} {F : Hp} : ∀ {bs : List (V × D)}, (∀ b ∈ bs, Rp K mg pa F b.1 b.2) → RpL K mg pa F (bs.map (·.1)) (bs.map (·.2))
  | [], _ => .nil
  | b :: r, h => .cons (h b List.mem_cons_self) (RpL.ofI fun c hc => h c (List.mem_cons_of_mem _ hc))
theorem o_sortD {C : CC} {W : WX} : Op1 C W (fun x H Q => rSortD C.K [x] H Q) fSortD (RO C) := fun σ ρ F H z x dx Qd Xd Q S rx hm hq hx => by
  cases dx with
  | lst ds =>
    obtain ⟨a, xs, rfl, ha, r, _⟩ := RT.lst S.sub rx
    obtain ⟨⟨h1, h2, h3, h4, h5⟩, hm⟩ := hm
    refine ⟨a, xs, pyL ds, rfl, .inl (.inl ha), RpL.dp S.sub r h1, h2, h3, h4, fun p hp => ?_⟩
    have el := RpL.length r
    have e1 : xs.zip (pyL ds) = (xs.zip ds).map (fun b => (b.1, b.2.py)) := by
      rw [pyL_map, List.zip_map_right]
      rfl
    have e2 : (vd xs (pyL ds)).map (·.1) = ((xs.zip ds).mergeSort (fun a b => dle a.2 b.2)).map (·.1) := by
      unfold vd
      rw [e1, ← List.map_mergeSort (r := fun a b => dle a.2 b.2)]
      · rw [List.map_map]; rfl
      · intro a _ b _; rfl
    have e3 : ((xs.zip ds).mergeSort (fun a b => dle a.2 b.2)).map (·.2) = ds.mergeSort dle := by
      rw [List.map_mergeSort (s := dle)]
      · rw [List.map_snd_zip (by omega)]
      · intro a _ b _; rfl
    rw [e2]
    refine S.newL hp ?_ hm hq
    rw [← e3]
    exact RpL.ofI fun b hb => RpL.zipI r b ((List.mergeSort_perm _ _).mem_iff.mp hb)
  | _ => exact False.elim hm
theorem xo_sortD {X : Cx} {C : CC} {W : WX} {p pos : Pos} {k : Nat} {a : Expr} {ma : E D} (kx : Kx X C W k) (hg : Gl X "sorted") (hm : X.mg "sorted" = none) (ha : XP X C W a ma) (h1 : S1 X a := by rfl) : XO X C W (.Call (.Name "sorted" p) [a] [] pos) (eb ma fSortD) :=
  xo_b1 (call_sortD kx.hu) (by rw [kx.hK]; exact o_sortD) ha hg hm rfl (by decide) (by decide) h1
@[simp] theorem fSortD_a (ds : List D) (ρ : Rho) (Q : List D → Rho → Zs → Prop) (X : Er → Rho → Zs → Prop) (z : Zs) : fSortD (.lst ds) ρ Q X z = ((isPyL ds = true ∧ PySem.W.AllAlike (pyL ds) ∧ PySem.W.Sortable (pyL ds) ∧ (∀ d ∈ pyL ds, d.depth ≤ 60) ∧ ds.length ≤ 16777216) ∧ Q (ds.mergeSort dle) ρ z) := propext Iff.rfl
/-! ## in a tuple of ints or of texts -/
theorem inV_str (s : Str) : ∀ ns : List Str, inV (.str s) (ns.map V.str) = ns.any fun n => decide (n = s)
  | [] => rfl
  | n :: r => by
    have ih := inV_str s r
    unfold inV at ih ⊢
    rw [List.map_cons, List.any_cons, List.any_cons, ih]
    congr 1
theorem flat_strs : ∀ ns : List Str, (ns.map V.str).all flatV = true
  | [] => rfl
  | n :: r => by
    rw [List.map_cons, List.all_cons, flat_strs r]
    rfl
def dInX : P2
  | .str s, .tup ds, Q => ∃ ys, strsOf ds = some ys ∧ Q (.bl (ys.any fun n => decide (n = s)))
  | a, b, Q => dInT a b Q
def dNotInX : P2
  | .str s, .tup ds, Q => ∃ ys, strsOf ds = some ys ∧ Q (.bl (!ys.any fun n => decide (n = s)))
  | a, b, Q => dNotInT a b Q
section
variable {C : CC} {W : WX}
theorem o_inX : Op2 C W (rIn C.K false) (fun a b => eP (dInX a b)) (kR C) := fun σ ρ F H z x y dx dy Qd Xd Q S rx ry hm hq hx => by
  unfold dInX at hm
  dsimp only [eP] at hm
  split at hm
  · rename_i ds
    obtain ⟨ns, h1, q⟩ := hm
    obtain rfl := RT.str rx
    obtain ⟨a, xs, rfl, ha, r⟩ := RT.tup S.sub ry
    have e := RpL.strs r h1
    subst e
    refine ⟨a, _, rfl, .inr ha, rfl, flat_strs ns, ?_⟩
    rw [if_neg Bool.false_ne_true, inV_str]
    exact S.same (R := kR C) q (.bl _) hq
  · exact o_inT (W := W) σ ρ F H z x y _ _ Qd Xd Q S rx ry hm hq hx
end
section
variable (s a b c : Str) (i : Int) (ds : List D) (Q : D → Prop)
@[simp] theorem dInX_1 : dInX (.int i) (.tup ds) Q = ∃ ns, intsOf ds = some ns ∧ Q (.bl (ns.any fun n => decide (n = i))) := propext Iff.rfl
@[simp] theorem dInX_2 : dInX (.str s) (.tup [.str a, .str b]) Q = Q (.bl (decide (a = s) || decide (b = s))) := by
  refine propext ⟨fun ⟨ys, e, q⟩ => ?_, fun q => ⟨[a, b], rfl, ?_⟩⟩
  · cases e; simpa using q
  · simpa using q
@[simp] theorem dInX_3 : dInX (.str s) (.tup [.str a, .str b, .str c]) Q = Q (.bl (decide (a = s) || decide (b = s) || decide (c = s))) := by
  refine propext ⟨fun ⟨ys, e, q⟩ => ?_, fun q => ⟨[a, b, c], rfl, ?_⟩⟩
  · cases e; simpa [Bool.or_assoc] using q
  · simpa [Bool.or_assoc] using q
@[simp] theorem dNotInX_2 : dNotInX (.str s) (.tup [.str a, .str b]) Q = Q (.bl (!(decide (a = s) || decide (b = s)))) := by
  refine propext ⟨fun ⟨ys, e, q⟩ => ?_, fun q => ⟨[a, b], rfl, ?_⟩⟩
  · cases e; simpa using q
  · simpa using q
end
end DL

namespace DL
open PySem PySem.Spec PyProof.Rows L2 PySem.W

/-! ## l.index(x) -/
section
variable {X : Cx} {C : CC} {W : WX} {b e : Expr} {mb me : E D} {p1 p2 : Pos} {k : Nat}
def dIdx (ds : List D) (y : D) (Q : D → Prop) : Prop := (isPyL ds = true ∧ y.isPy = true ∧ SeqAt.shaped (.list (pyL ds)) = true ∧ SeqAt.shaped y.py = true) ∧
  ∃ (j : Nat) (z : PyData), (pyL ds)[j]? = some z ∧ PyData.eqv z y.py = true ∧ (∀ (m : Nat) (z' : PyData), m < j → (pyL ds)[m]? = some z' → PyData.eqv z' y.py = false) ∧ Q (.int (j : Nat))
def fIdx (me : E D) : D → E D
  | .lst ds => eb me fun y => eP (dIdx ds y)
  | _ => eStuck
end
section
variable (ds : List D) (y : D) (ρ : Rho) (Q : D → Rho → Zs → Prop) (X : Er → Rho → Zs → Prop) (z : Zs)
@[simp] theorem fIdx_a (me : E D) : fIdx me (.lst ds) ρ Q X z = me ρ (fun y ρ' z' => dIdx ds y fun d => Q d ρ' z') X z := propext Iff.rfl
end
end DL

namespace DL
open PySem PySem.Spec PyProof.Rows L2
section
variable {X : Cx} {C : CC} {W : WX} {a b : Expr} {pos : Pos} {k : Nat} {x y : Str}
/-! ## a, b = [..], [..]: two own lists -/
def sParOO (i j : Nat) (mo mp : E (List D)) : E Fl := eb mo fun ds => eb mp fun es ρ Q _ z => Q .nx ((ρ.set i (.own ds)).set j (.own es)) z
end
@[simp] theorem sParOO_a (i j : Nat) (mo mp : E (List D)) (ρ : Rho) (Q : Fl → Rho → Zs → Prop) (X : Er → Rho → Zs → Prop) (z : Zs) : sParOO i j mo mp ρ Q X z = mo ρ (fun ds ρ1 z1 => mp ρ1 (fun es ρ2 z2 => Q .nx ((ρ2.set i (.own ds)).set j (.own es)) z2) X z1) X z := propext Iff.rfl
end DL

namespace DL
open PySem PySem.Spec PyProof.Rows L2
/-! ## o.m(..) and o(..), o an object of an own class -/
section
variable {X : Cx} {C : CC} {W : WX} {o e fe : Expr} {es : List Expr} {k j n N : Nat} {m c : Str} {A g : Addr} {fd : FuncData} {ps : List Str} {sp : Sp} {ta : TE} {t : TA} {apos pos : Pos}
def tMG (A : Addr) (m : Str) (n : Nat) (sp : Sp) (W : WX) (ta : TE) (t : TA) : TE := fun σ H Q => ta σ H fun x H1 => ∃ a dx fs, x = .ref a ∧ H1 a = some (.ins A dx fs) ∧ fs.lookup m = none ∧ t σ H1 fun vs H2 => vs.length + 1 = n ∧ sp (.ref a :: vs) H2 Q (WE W σ)
/-- o(..) -/
def tCG1 (A : Addr) (n : Nat) (sp : Sp) (W : WX) (ta : TE) (t : TA) : TE := fun σ H Q => ta σ H fun x H1 => ∃ a, x = V.ref a ∧ t σ H1 fun vs H2 => (∃ dx fs, H2 a = some (.ins A dx fs)) ∧ vs.length + 1 = n ∧ sp (.ref a :: vs) H2 Q (WE W σ)
/-- what o.m(..) does -/
def fMeth {α : Type} (c m : Str) (n : Nat) (mm : List D → E0 α) (ma : E (List D)) (d : D) : E α := fun ρ Q X z => (∃ ns fs, d = .ins c ns fs ∧ m ∉ ns) ∧ ma ρ (fun ds ρ' z' => ds.length + 1 = n ∧ e0 (mm (d :: ds)) ρ' Q X z') X z
abbrev eMeth {α : Type} (c m : Str) (n : Nat) (mm : List D → E0 α) (mo : E D) (ma : E (List D)) : E α := eb mo fun d => fMeth c m n mm ma d
/-- what o(..) does -/
def fCallO {α : Type} (c : Str) (n : Nat) (mm : List D → E0 α) (ma : E (List D)) (d : D) : E α := fun ρ Q X z => (∃ ns fs, d = .ins c ns fs) ∧ ma ρ (fun ds ρ' z' => ds.length + 1 = n ∧ e0 (mm (d :: ds)) ρ' Q X z') X z
abbrev eCallO {α : Type} (c : Str) (n : Nat) (mm : List D → E0 α) (mo : E D) (ma : E (List D)) : E α := eb mo fun d => fCallO c n mm ma d
section
variable {mo : E D} {ma : E (List D)} {mF : List D → E0 D} {mO : List D → E0 (List D)} {pl : Sem Bool}
end
end
end DL

namespace DL
open PySem PySem.Spec PyProof.Rows L2
/-! ## an __init__ of two fields -/
def dN2 (n : Nat) (me mf : E D) : List D → E0 (List D) := fun ds Q X z => me (.no :: rho0 n ds) (fun d ρ z => mf ρ (fun d2 _ z => Q [d, d2] z) (fun _ _ _ => False) z) (fun e _ z => X e z) z
end DL

namespace DL
open PySem PySem.Spec PyProof.Rows L2
/-! ## b.pop() of a list that changes, the answer dropped -/
section
variable {X : Cx} {C : CC} {W : WX} {b : Expr} {mb : E D} {p1 p2 p3 : Pos} {k : Nat}
def fPopC : D → E Fl
  | .mc k => fun ρ Q _ z => ∃ ds, z.cs[k]? = some (.lst ds) ∧ ds ≠ [] ∧ Q .nx ρ { z with cs := z.cs.set k (.lst ds.dropLast) }
  | _ => eStuck
end
@[simp] theorem fPopC_a (k : Nat) (ρ : Rho) (Q : Fl → Rho → Zs → Prop) (X : Er → Rho → Zs → Prop) (z : Zs) : fPopC (.mc k) ρ Q X z = ∃ ds, z.cs[k]? = some (.lst ds) ∧ ds ≠ [] ∧ Q .nx ρ { z with cs := z.cs.set k (.lst ds.dropLast) } := propext Iff.rfl
end DL

namespace DL
open PySem PySem.Spec PyProof.Rows L2
/-! ## len(o), o an object of an own class -/
section
variable {X : Cx} {C : CC} {W : WX} {o : Expr} {k j : Nat} {c : Str} {A g : Addr} {fd : FuncData} {ps : List Str} {sp : Sp} {ta : TE} {p pos : Pos}
def rLenO (A : Addr) (sp : Sp) : List V → Hp → VK → Prop := fun xs H Q => ∃ a dx fs, xs = [V.ref a] ∧ H a = some (.ins A dx fs) ∧ sp [.ref a] H (fun v H' => ∃ n : Int, v = .int n ∧ 0 ≤ n ∧ n < 2 ^ 63 ∧ Q (.int n) H') (fun _ _ _ => False)
def fLenO (c : Str) (m : List D → E0 D) (d : D) : E D := fun ρ Q _ z => (∃ ns ds, d = .ins c ns ds) ∧ m [d] (fun r z' => ∃ n : Int, r = .int n ∧ 0 ≤ n ∧ n < 2 ^ 63 ∧ Q (.int n) ρ z') (fun _ _ => False) z
end
@[simp] theorem fLenO_a (c : Str) (ns : List Str) (fs : List D) (m : List D → E0 D) (ρ : Rho) (Q : D → Rho → Zs → Prop) (X : Er → Rho → Zs → Prop) (z : Zs) : fLenO c m (.ins c ns fs) ρ Q X z = m [.ins c ns fs] (fun r z' => ∃ n : Int, r = .int n ∧ 0 ≤ n ∧ n < 2 ^ 63 ∧ Q (.int n) ρ z') (fun _ _ => False) z := propext ⟨fun h => h.2, fun h => ⟨⟨_, _, rfl⟩, h⟩⟩
end DL

namespace DL
open PySem PySem.Spec PyProof.Rows L2
/-! ## a dict display of texts and ints, a dict that will change -/
section
variable {X : Cx} {C : CC} {W : WX} {pos : Pos} {keys : List (Option Expr)} {values : List Expr} {trs : List (TE × TE)}
end
/-! ## o(k=e), o an object of an own class -/
section
variable {X : Cx} {C : CC} {W : WX} {k j n N : Nat} {m c x : Str} {A g : Addr} {fd : FuncData} {ps ks : List Str} {sp : Sp} {ta : TE} {tk : TA} {pos p2 : Pos} {kws : List Keyword} {gV : List V → List V → List V} {gD : List D → List D → List D}
def tCK1 (A : Addr) (m : Nat) (sp : Sp) (gV : List V → List V → List V) (W : WX) (ta : TE) (tk : TA) : TE := fun σ H Q => ta σ H fun x H1 => ∃ a, x = V.ref a ∧ tk σ H1 fun zs H2 => (∃ dx fs, H2 a = some (.ins A dx fs)) ∧ zs.length = m ∧ sp (gV [.ref a] zs) H2 Q (WE W σ)
def fCallOK {α : Type} (c : Str) (n m : Nat) (mm : List D → E0 α) (mk : E (List D)) (d : D) : E α := fun ρ Q X z => (∃ ns fs, d = .ins c ns fs) ∧ mk ρ (fun es ρ' z' => es.length = m ∧ m + 1 = n ∧ e0 (mm (d :: es)) ρ' Q X z') X z
abbrev eCallOK {α : Type} (c : Str) (n m : Nat) (mm : List D → E0 α) (mo : E D) (mk : E (List D)) : E α := eb mo fun d => fCallOK c n m mm mk d
end
@[simp] theorem fCallOK_a {α : Type} (c : Str) (n m : Nat) (mm : List D → E0 α) (mk : E (List D)) (ns : List Str) (fs : List D) (ρ : Rho) (Q : α → Rho → Zs → Prop) (X : Er → Rho → Zs → Prop) (z : Zs) : fCallOK c n m mm mk (.ins c ns fs) ρ Q X z = mk ρ (fun es ρ' z' => es.length = m ∧ m + 1 = n ∧ mm (.ins c ns fs :: es) (fun r z' => Q r ρ' z') (fun e z' => X e ρ' z') z') X z := propext ⟨fun h => h.2, fun h => ⟨⟨_, _, rfl⟩, h⟩⟩
end DL

namespace DL
open PySem PySem.Spec PyProof.Rows L2
/-! ## x.pop() of an own list, the answer dropped; dict(a dict that changes) -/
section
variable {X : Cx} {C : CC} {W : WX} {x : Str} {p p1 p2 p3 pos : Pos} {k : Nat} {a : Expr} {ma : E D}
def sPopI (i : Nat) : E Fl := fun ρ Q _ z => match ρ[i]? with
  | some (.own ds) => ds ≠ [] ∧ Q .nx (ρ.set i (.own ds.dropLast)) z
  | _ => False
def fCopyD : D → E D
  | .dic ks ds => fun ρ Q _ z => Q (.mc z.cs.length) ρ { z with cs := z.cs ++ [.dic ks ds] }
  | _ => eStuck
end
@[simp] theorem sPopI_a (i : Nat) (t : Sl) (ρ : Rho) (Q : Fl → Rho → Zs → Prop) (X : Er → Rho → Zs → Prop) (z : Zs) : sPopI i (t :: ρ) Q X z = (match (t :: ρ)[i]? with
  | some (.own ds) => ds ≠ [] ∧ Q .nx ((t :: ρ).set i (.own ds.dropLast)) z
  | _ => False) := propext Iff.rfl
@[simp] theorem fCopyD_a (ks : List Key) (ds : List D) (ρ : Rho) (Q : D → Rho → Zs → Prop) (X : Er → Rho → Zs → Prop) (z : Zs) : fCopyD (.dic ks ds) ρ Q X z = Q (.mc z.cs.length) ρ { z with cs := z.cs ++ [.dic ks ds] } := propext Iff.rfl
end DL

namespace DL
open PySem PySem.Spec PyProof.Rows L2
/-! ## repr(x), x a truth or None, too -/
def dReprY : P1
  | .non, Q => Q (.str "None")
  | d, Q => dReprX d Q
def rReprY (K : PySem.W.Frag) : List V → Hp → VK → Prop := fun xs H Q => (xs = [V.non] ∧ Q (.str "None") H) ∨ rReprX K xs H Q
section
variable {X : Cx} {C : CC} {W : WX} {p pos : Pos}
end
@[simp] theorem dReprY_1 (ds : List D) (Q : D → Prop) : dReprY (.lst ds) Q = (reprOk (.lst ds) ∧ Q (.str (D.lst ds).py.shown)) := propext Iff.rfl
@[simp] theorem dReprY_2 (ds : List D) (Q : D → Prop) : dReprY (.tup ds) Q = (reprOk (.tup ds) ∧ Q (.str (D.tup ds).py.shown)) := propext Iff.rfl
@[simp] theorem dReprY_3 (b : Bool) (Q : D → Prop) : dReprY (.bl b) Q = Q (.str (bStr b)) := propext Iff.rfl
@[simp] theorem dReprY_4 (Q : D → Prop) : dReprY .non Q = Q (.str "None") := propext Iff.rfl
@[simp] theorem dReprY_5 (i : Int) (Q : D → Prop) : dReprY (.int i) Q = (i.natAbs.log2 < 1920 ∧ Q (.str (toString i))) := propext Iff.rfl
end DL

namespace DL
open PySem PySem.Spec PyProof.Rows L2
/-! ## x == y and x != y by an own __eq__ -/
section
variable {prog : Program} {w : World} {A : Around} {E : Value → Shared → Prop} {s : Shared} {K : PySem.W.Frag} {x D L f : Addr} {h₀ : Heap} {m : Str → Option Value} {ox : Obj} {od : Option Obj} {b tb : Value}
open Builtin in
end

section
variable {X : Cx} {C : CC} {W : WX} {k j : Nat} {c : Str} {A g : Addr} {fd : FuncData} {ps : List Str} {sp : Sp}
/-- what != asks of the class -/
structure NeO (K : PySem.W.Frag) (A : Addr) : Prop where
  ne : PySem.W.findIn K (.ref A) "__ne__" = some (some (.builtin "object.__ne__"))
  mo : PySem.W.mroIn K A (.type "object") = some true
def neB (K : PySem.W.Frag) (A : Addr) : Bool := decide (PySem.W.findIn K (.ref A) "__ne__" = some (some (.builtin "object.__ne__"))) && decide (PySem.W.mroIn K A (.type "object") = some true)
def rEqO (A : Addr) (ne : Bool) (sp : Sp) : R2 := fun x y H Q => ∃ a dx fs b dy gs, x = .ref a ∧ y = .ref b ∧ H a = some (.ins A dx fs) ∧ H b = some (.ins A dy gs) ∧ sp [.ref a, .ref b] H (fun v H' => ∃ t, v = .bl t ∧ Q (.bl (t != ne)) H') (fun _ _ _ => False)
/-- d == e, d != e, both objects of the class c whose __eq__ is m -/
def fEqO (c : Str) (ne : Bool) (m : List D → E0 D) (d e : D) : E D := fun ρ Q _ z => (∃ ns ds, d = .ins c ns ds) ∧ (∃ ns ds, e = .ins c ns ds) ∧ m [d, e] (fun r z' => ∃ t, r = .bl t ∧ Q (.bl (t != ne)) ρ z') (fun _ _ => False) z
end
@[simp] theorem fEqO_a (c : Str) (ne : Bool) (ns ns' : List Str) (fs fs' : List D) (m : List D → E0 D) (ρ : Rho) (Q : D → Rho → Zs → Prop) (X : Er → Rho → Zs → Prop) (z : Zs) : fEqO c ne m (.ins c ns fs) (.ins c ns' fs') ρ Q X z = m [.ins c ns fs, .ins c ns' fs'] (fun r z' => ∃ t, r = .bl t ∧ Q (.bl (t != ne)) ρ z') (fun _ _ => False) z := propext ⟨fun h => h.2.2, fun h => ⟨⟨_, _, rfl⟩, ⟨_, _, rfl⟩, h⟩⟩
/-! ## isinstance(x, C), C an own class, x any data -/
structure ClI (K : PySem.W.Frag) (A : Addr) : Prop where
  cl : Cls K A
  ca : PySem.W.findIn K (.ref A) "__class__" = some (some (.builtin "object.__class__"))
  cn : PySem.W.specialIn K (.builtin "object.__class__") "__get__" = some (some (.builtin "getset_descriptor.__get__"))
  ct : PySem.W.takesIn K (.builtin "object.__class__") = some true
  cm : PySem.W.mroIn K A (.type "object") = some true
def clB (K : PySem.W.Frag) (A : Addr) : Bool := decide (PySem.W.findIn K (.ref A) "__class__" = some (some (.builtin "object.__class__"))) && decide (PySem.W.specialIn K (.builtin "object.__class__") "__get__" = some (some (.builtin "getset_descriptor.__get__"))) &&
  decide (PySem.W.takesIn K (.builtin "object.__class__") = some true) && decide (PySem.W.mroIn K A (.type "object") = some true)
def tysO : List String := ["NoneType", "bool", "int", "str", "list", "tuple"]
def isoB (K : PySem.W.Frag) (A : Addr) (Bs : List Addr) : Bool := tysO.all (fun t => decide (PySem.W.kitOne K (.type t) (.ref A) = some false)) && Bs.all (fun B => decide (PySem.W.kitOne K (.ref B) (.ref A) = some false))
def dIsO (c : Str) (os : List Str) : P1 := fun d Q => match d with
  | .ins c' _ _ => if c' = c then Q (.bl true) else c' ∈ os ∧ Q (.bl false)
  | d => (tyN d).isSome = true ∧ Q (.bl false)
section
variable {X : Cx} {C : CC} {W : WX} {a : Expr} {ma : E D} {pos p p2 : Pos} {x c : Str} {A : Addr}
end
@[simp] theorem dIsO_1 (c : Str) (os ns : List Str) (ds : List D) (Q : D → Prop) : dIsO c os (.ins c ns ds) Q = Q (.bl true) := by simp [dIsO]
@[simp] theorem dIsO_3 (c : Str) (os : List Str) (ds : List D) (Q : D → Prop) : dIsO c os (.lst ds) Q = Q (.bl false) := by simp [dIsO, tyN]
@[simp] theorem dIsO_4 (c : Str) (os : List Str) (ds : List D) (Q : D → Prop) : dIsO c os (.tup ds) Q = Q (.bl false) := by simp [dIsO, tyN]
@[simp] theorem dIsO_5 (c : Str) (os : List Str) (i : Int) (Q : D → Prop) : dIsO c os (.int i) Q = Q (.bl false) := by simp [dIsO, tyN]
@[simp] theorem dIsO_6 (c : Str) (os : List Str) (Q : D → Prop) : dIsO c os .non Q = Q (.bl false) := by simp [dIsO, tyN]
@[simp] theorem dIsO_7 (c : Str) (os : List Str) (i : Str) (Q : D → Prop) : dIsO c os (.str i) Q = Q (.bl false) := by simp [dIsO, tyN]
end DL

namespace DL
open PySem PySem.Spec PyProof.Rows L2
/-! ## for x in l, l a list that changes, but not in the loop -/
def forZ (k : Nat) (ds : List D) (tg : Tg) (mb : E Fl) : List D → E Fl
  | [] => fun ρ Q _ z => z.cs[k]? = some (.lst ds) ∧ Q .nx ρ z
  | d :: r => fun ρ Q X z => z.cs[k]? = some (.lst ds) ∧ tg d ρ fun ρ1 => mb ρ1 (fun fl ρ2 z2 => forK (forZ k ds tg mb r) fl ρ2 Q X z2) X z
def fForZ (tg : Tg) (mb : E Fl) : D → E Fl
  | .mc k => fun ρ Q X z => ∃ ds, z.cs[k]? = some (.lst ds) ∧ forZ k ds tg mb ds ρ Q X z
  | _ => eStuck
def sForZ (mi : E D) (tg : Tg) (mb : E Fl) : E Fl := eb mi (fForZ tg mb)
section
variable {X : Cx} {C : CC} {W : WX} {k : Nat} {tg iter : Expr} {pos : Pos}
end
section
variable (tg : Tg) (mb : E Fl) (mi : E D) (ρ : Rho) (Q : Fl → Rho → Zs → Prop) (X : Er → Rho → Zs → Prop) (z : Zs)
@[simp] theorem sForZ_a : sForZ mi tg mb ρ Q X z = mi ρ (fun d ρ' z' => fForZ tg mb d ρ' Q X z') X z := propext Iff.rfl
end
end DL

namespace DL
open PySem PySem.Spec PyProof.Rows L2
/-! ## x == y by an own __eq__, y any data that is frozen -/
section
variable {X : Cx} {C : CC} {W : WX} {k j : Nat} {c : Str} {A g : Addr} {fd : FuncData} {ps : List Str} {sp : Sp} {a b : Expr} {ma mb : E D} {pos : Pos}
def Op2R {α : Type} (C : CC) (W : WX) (r : R2) (f : D → D → E α) (R : Hp → Hp → Hp → V → α → Prop) : Prop :=
  ∀ (σ : L2.St) (ρ : Rho) (F H : Hp) (z : Zs) (x y : V) (dx dy : D) (Qd : α → Rho → Zs → Prop) (Xd : Er → Rho → Zs → Prop) (Q : VK), StOk C σ ρ F H z → RT C F H x dx → C.R F y dy → f dx dy ρ Qd Xd z →
    (∀ c ρ' z' d F' H', Qd c ρ' z' → StOk C σ ρ' F' H' z' → Same F F' → Keep C.pa F F' H H' → Ole ρ' ρ → R H F' H' d c → Q d H') →
    (∀ e ρ' z' cls dd F' H', Xd e ρ' z' → StOk C σ ρ' F' H' z' → Same F F' → ExR C F' H' e cls dd → W cls dd σ H') → r x y H Q
def rEqX (K : PySem.W.Frag) (A : Addr) (sp : Sp) : R2 := fun x y H Q => ∃ a dx fs t, x = .ref a ∧ H a = some (.ins A dx fs) ∧ TyX K H y t ∧ PySem.W.notFirst K A t = true ∧ sp [.ref a, y] H (fun v H' => ∃ t, v = .bl t ∧ Q (.bl t) H') (fun _ _ _ => False)
def nfB (K : PySem.W.Frag) (A : Addr) (Bs : List Addr) : Bool := tysO.all (fun t => PySem.W.notFirst K A (.type t)) && Bs.all (fun B => PySem.W.notFirst K A (.ref B))
/-- what may stand behind == -/
def okR (c : Str) (os : List Str) : D → Prop
  | .ins c' _ _ => c' = c ∨ c' ∈ os
  | d => (tyN d).isSome = true
def fEqX (c : Str) (os : List Str) (m : List D → E0 D) (d e : D) : E D := fun ρ Q _ z => (∃ ns ds, d = .ins c ns ds) ∧ okR c os e ∧ m [d, e] (fun r z' => ∃ t, r = .bl t ∧ Q (.bl t) ρ z') (fun _ _ => False) z
end
end DL

namespace DL
open PySem PySem.Spec PyProof.Rows L2

/-! ## sets of texts whose members are known -/
def keyT : Int × Value → Str := fun e => match e.2 with
  | .str k _ => k
  | _ => Str.empty
section
variable {P : Program} {w : World}
def IsTx (P : Program) (w : World) (e : Int × Value) : Prop := ∃ k u, e.2 = Value.str k u ∧ e.1 = (PySem.strKind P w).hash k
theorem IsTx.key {e : Int × Value} (g : IsTx P w e) (k : Str) : (PySem.strKind P w).is k e.2 = true ↔ keyT e = k := by
  obtain ⟨x, u, h1, _⟩ := g
  unfold keyT
  rw [h1]
  exact beq_iff_eq (a := x) (b := k)
theorem txElems {l : List (Int × Value)} (g : ∀ e ∈ l, IsTx P w e) : ElemsOf (PySem.strKind P w) l := fun e he =>
  match e, g e he with
  | (_, _), ⟨k, u, rfl, h2⟩ => ⟨⟨k, strKind_is P w k u, h2⟩, rfl⟩
/-- the members in the order in which they came -/
structure TxO (P : Program) (w : World) (o : Obj) (L : List Str) (es : Array (Int × Value)) (ep : Nat) (t : SetTable) : Prop where
  ex : o.ExactSet
  dt : o.data = .set es ep t
  el : ∀ e ∈ es.toList, IsTx P w e
  ks : (es.toList.map keyT).Perm L
  nd : L.Nodup
  fw : es.size < scanBound
  ft : t.fits es.size = true
  ri : Ris t.place.toList
  ld : w.params.followText "set-order" = true ∨ t.led = true
def TxS (P : Program) (w : World) (h : Heap) (a : Addr) (L : List Str) : Prop := ∃ o es ep t, h.get? a = some o ∧ TxO P w o L es ep t
theorem TxS.keep {h h' : Heap} {a : Addr} {L : List Str} (R : TxS P w h a L) (k : ∀ o, h.get? a = some o → h'.get? a = some o) : TxS P w h' a L :=
  match R with
  | ⟨o, es, ep, t, q, T⟩ => ⟨o, es, ep, t, k o q, T⟩
theorem TxO.len {o : Obj} {L : List Str} {es : Array (Int × Value)} {ep : Nat} {t : SetTable} (T : TxO P w o L es ep t) : es.size = L.length := by
  rw [← T.ks.length_eq, List.length_map, Array.length_toList]
theorem stp_nodup {L : List Str} (h : L.Nodup) (k : Str) : (stp L k).Nodup := by
  unfold stp
  split
  · exact h
  · rename_i hk
    rw [List.nodup_append]
    exact ⟨h, by simp, fun x hx y hy e => hk (by rw [← List.mem_singleton.mp hy, ← e]; exact hx)⟩
section
variable {A : Around} {E : Value → Shared → Prop} {s : Shared} {a : Addr} {L : List Str}
theorem put_here {h : Heap} {o : Obj} {es es' : Array (Int × Value)} {ep : Nat} {t t' : SetTable} (q : h.get? a = some o) (d : o.data = .set es ep t) :
    (h.update a (Obj.putSet es' t')).get? a = some { o with data := .set es' (ep + 1) t' } := by
  rw [← putSet_of es' t' d]
  exact Heap.get?_update_self _ q (by rw [putSet_of es' t' d]; rfl)
/-- behind the laying of a new one: the table may be laid anew -/
theorem tx_settle {f : Bool → Sem Unit} (hf : ∀ (b : Bool) (s1 : Shared) (Y : Unit → Shared → Prop), Y () s1 → wpAny (model P w) A (f b) Y E s1) {o : Obj} {es : Array (Int × Value)} {ep : Nat} {t : SetTable} (q : s.heap.get? a = some o) (d : o.data = .set es ep t)
    {M : List Str} {e1 : Array (Int × Value)} {t1 : SetTable} (T : ∀ o' : Obj, o'.cls = o.cls → o'.dict = o.dict → o'.slots = o.slots → ∀ n, o'.data = .set e1 n t1 → TxO P w o' M e1 n t1) {dm : Bool} {Y : Option Bool → Shared → Prop}
    (hY : ∀ h', Heap.SameBut a s.heap h' → TxS P w h' a M → Y (some true) { s with heap := h' }) :
    wpAny (model P w) A (do
        storeSet a e1 t1
        if (!dm && t1.tooFull) = true then (do
            f (relayAll t1 e1 (SetTable.grown e1.size)).2.2
            storeSet a (relayAll t1 e1 (SetTable.grown e1.size)).1 (relayAll t1 e1 (SetTable.grown e1.size)).2.1
            pure (some true))
        else pure (some true)) Y E s := by
  have T1 := T { o with data := .set e1 (ep + 1) t1 } rfl rfl rfl (ep + 1) rfl
  have q1 := put_here (es' := e1) (t' := t1) q d
  have b1 := Heap.SameBut.update s.heap a (Obj.putSet e1 t1)
  refine wpAny_bind (wpAny_storeSet_of q d ?_ (fits_of_scanBound T1.fw))
  split
  · have r1 := relayAll_perm t1 e1 (SetTable.grown e1.size)
    have r2 := relayAll_fits t1 e1 (SetTable.grown e1.size)
    have r3 := relayAll_ris t1 e1 (SetTable.grown e1.size)
    have r4 := relayAll_led t1 e1 (SetTable.grown e1.size)
    revert r1 r2 r3 r4
    generalize relayAll t1 e1 (SetTable.grown e1.size) = Z
    obtain ⟨e2, t2, g2⟩ := Z
    intro r1 r2 r3 r4
    dsimp only at r1 r2 r3 r4 ⊢
    have sz : e2.size = e1.size := by rw [← Array.length_toList, r1.length_eq, Array.length_toList]
    have fw2 : e2.size < scanBound := sz.symm ▸ T1.fw
    refine wpAny_bind (hf _ _ _ (wpAny_bind (wpAny_storeSet_of q1 rfl ?_ (fits_of_scanBound fw2))))
    refine wpAny_pure (hY _ (b1.trans (Heap.SameBut.update _ a _)) ⟨_, e2, ep + 1 + 1, t2, put_here q1 rfl, ?_⟩)
    exact ⟨T1.ex, rfl, fun e he => T1.el e (r1.mem_iff.mp he), (r1.map keyT).trans T1.ks, T1.nd, fw2, r2, r3, T1.ld.imp id fun z => r4.trans z⟩
  · exact wpAny_pure (hY _ b1 ⟨_, e1, _, t1, q1, T1⟩)
theorem TxS.hadd {k : Str} {u : Tok} {Q : Bool → Shared → Prop} (R : TxS P w s.heap a L) (room : L.length + 1 < scanBound)
    (hQ : ∀ b h', Heap.SameBut a s.heap h' → TxS P w h' a (stp L k) → Q b { s with heap := h' }) :
    wpAny (model P w) A (setAddHashed a (.str k u) ((PySem.strKind P w).hash k)) Q E s := by
  obtain ⟨o, es, ep, t, q, T⟩ := R
  have el := txElems T.el
  have mine : (PySem.strKind P w).is k (.str k u) = true := strKind_is P w k u
  unfold setAddHashed setAddHashedIn
  refine wpAny_holding (wpAny_bind (wpAny_setState_of q T.dt T.ft ?_))
  dsimp only
  rw [byScan_of (x := .str k u) rfl T.fw el, if_pos rfl]
  unfold setAddByScan
  refine wpAny_bind (wpAny_bind (wpAny_rule (wpAny_bind (wpAny_setScan_of mine q T.dt T.ft el ?_))))
  cases fd : List.findIdx? (fun e => (PySem.strKind P w).is k e.2) es.toList with
  | some j =>
    obtain ⟨hj, pj, _⟩ := List.findIdx?_eq_some_iff_getElem.mp fd
    have inL : k ∈ L := T.ks.mem_iff.mp (List.mem_map.mpr ⟨_, List.getElem_mem hj, ((T.el _ (List.getElem_mem hj)).key k).mp pj⟩)
    refine wpAny_pure (wpAny_pure (hQ _ s.heap (Heap.SameBut.refl a s.heap) ⟨o, es, ep, t, q, ?_⟩))
    unfold stp
    rw [if_pos inL]
    exact T
  | none =>
    have outL : k ∉ L := fun z => by
      obtain ⟨e, he, hk⟩ := List.mem_map.mp (T.ks.mem_iff.mpr z)
      have c := List.findIdx?_eq_none_iff.mp fd e he
      rw [((T.el e he).key k).mpr hk] at c
      cases c
    have quiet : ∀ (b : Bool) (s1 : Shared) (Y : Unit → Shared → Prop), Y () s1 → wpAny (model P w) A (match b with | true => rule "set.scan.the-table-gave-way" | false => pure ()) Y E s1 :=
      fun b s1 Y y => by cases b <;> first | exact wpAny_pure y | exact wpAny_rule y
    have l1 := layNew_perm t es ((PySem.strKind P w).hash k) (.str k u)
    have l2 := layNew_fits t es ((PySem.strKind P w).hash k) (.str k u)
    have l3 := layNew_ris t es ((PySem.strKind P w).hash k) (.str k u) T.ri
    have l4 := layNew_led t es ((PySem.strKind P w).hash k) (.str k u)
    dsimp only
    revert l1 l2 l3 l4
    generalize layNew t es ((PySem.strKind P w).hash k) (.str k u) = Z
    obtain ⟨e1, t1, dm, gv⟩ := Z
    intro l1 l2 l3 l4
    dsimp only at l1 l2 l3 l4 ⊢
    rw [Array.toList_push] at l1
    have ks1 : (e1.toList.map keyT).Perm (L ++ [k]) := by
      have z := l1.map keyT
      rw [List.map_append] at z
      exact z.trans (T.ks.append_right _)
    have e1k : stp L k = L ++ [k] := by unfold stp; rw [if_neg outL]
    have nd1 : (L ++ [k]).Nodup := e1k ▸ stp_nodup T.nd k
    have el1 : ∀ e ∈ e1.toList, IsTx P w e := fun e he => by
      rcases List.mem_append.mp (l1.mem_iff.mp he) with z | z
      · exact T.el e z
      · rw [List.mem_singleton.mp z]; exact ⟨k, u, rfl, rfl⟩
    have fw1 : e1.size < scanBound := by
      have z := ks1.length_eq
      rw [List.length_map, Array.length_toList, List.length_append] at z
      rw [z]; exact room
    have made : ∀ t2 : SetTable, t2.fits e1.size = true → Ris t2.place.toList → (w.params.followText "set-order" = true ∨ t2.led = true) →
        ∀ o' : Obj, o'.cls = o.cls → o'.dict = o.dict → o'.slots = o.slots → ∀ n, o'.data = .set e1 n t2 → TxO P w o' (L ++ [k]) e1 n t2 := fun t2 a1 a2 a3 o' c1 c2 c3 n c4 =>
      ⟨by obtain ⟨x1, x2, x3⟩ := T.ex; exact ⟨c1.trans x1, c2.trans x2, c3.trans x3⟩, c4, el1, ks1, nd1, fw1, a1, a2, a3⟩
    have ld1 : w.params.followText "set-order" = true ∨ t1.led = true := T.ld.imp id fun z => l4.trans z
    refine wpAny_bind (quiet _ _ _ ?_)
    split
    · refine wpAny_bind (m := hashByValue 8 (Value.str k u)) ?_
      rw [hashByValue_scannable 8 (x := .str k u) rfl]
      refine wpAny_pure (tx_settle (fun b s1 Y y => quiet b s1 Y y) q T.dt (M := L ++ [k]) ?_ fun h' sb r => wpAny_pure (hQ _ h' sb (e1k.symm ▸ r)))
      first
        | exact made _ (SetTable.fits_plain_off l2) l3 ld1
        | exact made _ l2 l3 ld1
        | (split <;> first | exact made _ (SetTable.fits_plain_off l2) l3 ld1 | exact made _ l2 l3 ld1)
    · refine wpAny_bind (wpAny_pure ?_)
      rw [if_pos rfl]
      exact tx_settle (fun b s1 Y y => quiet b s1 Y y) q T.dt (M := L ++ [k]) (made _ l2 l3 ld1) fun h' sb r => wpAny_pure (hQ _ h' sb (e1k.symm ▸ r))
end
end
end DL

namespace DL
open PySem PySem.Spec PyProof.Rows L2

/-! ## texts in order -/
def tle (a b : Str) : Bool := decide (a.cps.toList ≤ b.cps.toList)
def sorT (L : List Str) : List Str := L.mergeSort tle
theorem tle_trans (a b c : Str) : tle a b = true → tle b c = true → tle a c = true := by
  unfold tle
  simp only [decide_eq_true_eq]
  exact fun x y => List.le_trans x y
theorem tle_total (a b : Str) : (tle a b || tle b a) = true := by
  unfold tle
  simp only [Bool.or_eq_true, decide_eq_true_eq]
  exact List.le_total ..
theorem tle_anti {a b : Str} (x : tle a b = true) (y : tle b a = true) : a = b := by
  unfold tle at x y
  simp only [decide_eq_true_eq] at x y
  have z := List.le_antisymm x y
  cases a; cases b
  simp only at z
  rw [Array.toList_inj.mp z]
theorem sorT_perm {L M : List Str} (h : L.Perm M) : sorT L = sorT M :=
  List.Perm.eq_of_pairwise (le := fun a b => tle a b = true) (fun _ _ _ _ x y => tle_anti x y) (List.pairwise_mergeSort tle_trans tle_total L) (List.pairwise_mergeSort tle_trans tle_total M)
    ((List.mergeSort_perm L tle).trans (h.trans (List.mergeSort_perm M tle).symm))
section
variable {P : Program} {w : World} {A : Around} {E : Value → Shared → Prop} {s : Shared} {a : Addr} {L : List Str}
theorem TxS.type {h : Heap} (R : TxS P w h a L) : ∃ o, h.get? a = some o ∧ o.cls = .type "set" :=
  match R with
  | ⟨o, _, _, _, q, T⟩ => ⟨o, q, T.ex.1⟩
/-- found.add(text) -/
theorem TxS.add {k : Str} {u : Tok} {Q : Value → Shared → Prop} (R : TxS P w s.heap a L) (room : L.length + 1 < scanBound)
    (hQ : ∀ h', Heap.SameBut a s.heap h' → TxS P w h' a (stp L k) → Q .none { s with heap := h', toks := s.toks + 1 }) : wpAny (model P w) A (call (.builtin "set.add") [.ref a, .str k u]) Q E s := by
  refine wpAny_call_entry PySem.F.slot_set_add R.type PySem.F.entry_set_add ?_ (PySem.F.args_set_add_2 _ _)
  unfold Builtin.«set.add» Builtin.Frozenset.oneOther Builtin.Frozenset.addrOf setAdd
  simp only [List.isEmpty_nil, bind_assoc]
  refine wpAny_bind (wpAny_pure ?_)
  refine wpAny_bind (wpAny_pure ?_)
  refine wpAny_bind (wpAny_holding (wpAny_bind ((PySem.strKind P w).pyHash (strKind_is P w k u) ?_)))
  refine TxS.hadd (s := { s with toks := s.toks + 1 }) R room fun b h' sb r => ?_
  exact wpAny_pure ⟨_, rfl, hQ h' sb r⟩
theorem each_mem_txt : ∀ {us : List Value}, (∀ u ∈ us, ∃ k t, u = Value.str k t) → ∃ ks, PySem.W.EachIs (fun u (k : Str) => ∃ t, u = Value.str k t) us ks ∧ ks = us.map fun u => keyT (0, u)
  | [], _ => ⟨[], .nil, rfl⟩
  | u :: r, g => by
    obtain ⟨k, t, rfl⟩ := g u List.mem_cons_self
    obtain ⟨ks, h1, h2⟩ := each_mem_txt fun v hv => g v (List.mem_cons_of_mem _ hv)
    exact ⟨k :: ks, .cons ⟨t, rfl⟩ h1, by rw [h2]; rfl⟩
/-- sorted(a set of texts) -/
theorem TxS.sorted {Q : Value → Shared → Prop} (R : TxS P w s.heap a L) (hh : A.handled = none) (hu : A.units + 8 < cLine)
    (hQ : ∀ s' p (out : List Value) (c : Nat), (∀ b o, s.heap.get? b = some o → s'.heap.get? b = some o) → s'.gens = s.gens → s'.os = s.os → s.heap.objs.size ≤ p →
      s'.heap.get? p = some (seqObj "list" out.toArray c) → PySem.W.EachIs (fun u (k : Str) => ∃ t, u = Value.str k t) out (sorT L) → Q (.ref p) s') :
    wpAny (model P w) A (call (.builtin "sorted") [.ref a]) Q E s := by
  obtain ⟨o, es, ep, t, q, T⟩ := R
  have few : L.length < scanBound := T.len ▸ T.fw
  refine Calls.call_function_entry kind_sorted plain_sorted entry_sorted (args_sorted1 _) ?_
  unfold Builtin.«sorted»
  refine wpAny_bind (m := checkCount "sorted" 1 1 _) (wpAny_pure ?_)
  refine wpAny_bind (collect_set (A := A.in1) hh ⟨o, q, T.ex.1, T.dt⟩ T.ft T.fw T.ri T.ld fun s1 vs k1 z1 g1 o1 pm => ?_)
  obtain ⟨ks, ek, eks⟩ := each_mem_txt (us := vs) fun u hv => by
    obtain ⟨e, he, rfl⟩ := List.mem_map.mp (pm.mem_iff.mp hv)
    obtain ⟨k, t, h1, _⟩ := T.el e he
    exact ⟨k, t, h1⟩
  have kp : ks.Perm L := by
    rw [eks]
    refine (pm.map _).trans ?_
    rw [List.map_map]
    exact T.ks
  have vl : vs.length = L.length := by rw [pm.length_eq, List.length_map, Array.length_toList, T.len]
  have line : scanBound ≤ sizeLine := by rw [sizeLine_eq]; decide
  refine wpAny_bind (wpAny_newList ?_ (by rw [vl]; omega))
  have at1 : (s1.heap.push (seqObj "list" vs.toArray 0)).get? s1.heap.objs.size = some (seqObj "list" vs.toArray 0) := Heap.get?_push_size _ rfl
  have er : PySem.W.EachIs (fun v (b : Str) => ∃ as, Reads (s1.heap.push (seqObj "list" vs.toArray 0)) v (PyData.str b) as ∧ s1.heap.objs.size ∉ as) vs ks := ek.mono fun u k ⟨t, e⟩ => ⟨[], by rw [e]; exact .str _ _, by simp⟩
  have ke : ks.map PyData.str = L.map PyData.str ∨ True := .inr trivial
  have alk : PySem.W.AllAlike (ks.map PyData.str) := fun d hd d' hd' => by
    obtain ⟨x, _, rfl⟩ := List.mem_map.mp hd
    obtain ⟨y, _, rfl⟩ := List.mem_map.mp hd'
    rfl
  have srt : PySem.W.Sortable (ks.map PyData.str) := .inr fun d hd => by
    obtain ⟨x, _, rfl⟩ := List.mem_map.mp hd
    refine ⟨?_, ?_⟩ <;> intros <;> simp
  refine wpAny_bind (wpAny_holding ?_)
  refine PySem.W.list_sort_data (s := { s1 with heap := s1.heap.push (seqObj "list" vs.toArray 0) }) (bs := ks) (enc := PyData.str) (R := fun u (k : Str) => ∃ t, u = Value.str k t) at1 ek er alk srt ?_ (fun b _ => ?_) fun out ol eo => ?_
  · rw [kp.length_eq]; omega
  · have dp : (PyData.str b).depth ≤ 1 := by first | exact Nat.le_refl _ | exact Nat.zero_le _ | (unfold PyData.depth; omega)
    show A.in1.units + 1 + (PyData.str b).depth < cLine
    have : A.in1.units ≤ A.units + 4 := by first | exact Nat.le_add_right (A.units + 1) 3 | (simp [Around.in1]; omega)
    omega
  · obtain ⟨c, hc⟩ := sortedHeap_at (vs := vs) (out := out.toArray) at1
    have se : ks.mergeSort (PySem.W.dataLe false PyData.str) = sorT L := by
      have z : PySem.W.dataLe false PyData.str = tle := PySem.W.dataLe_str (fun b => b)
      rw [z]
      exact sorT_perm kp
    rw [se] at eo
    refine wpAny_pure ⟨_, rfl, ?_⟩
    refine hQ { s1 with heap := sortedHeap (s1.heap.push (seqObj "list" vs.toArray 0)) s1.heap.objs.size vs out.toArray } s1.heap.objs.size out c (fun b u e => ?_) g1 o1 z1 hc eo
    have e1 := k1 b u e
    have lt := Heap.lt_size e1
    refine (sortedHeap_old (Nat.ne_of_lt lt) ?_).trans (Heap.get?_push_of_some _ e1)
    rw [Heap.size_push]
    exact Nat.lt_succ_of_lt lt
end
end DL

namespace DL
open PySem PySem.Spec PyProof.Rows L2

/-! ## set(a list of texts), sorted(set(..)) -/
section
variable {prog : Program} {w : World} {A : Around} {R : Result → Shared → Prop} {I : Addr} {fp wr : List Addr} {G : Array GenState → Array GenState → Prop} {n : Nat} {P : Nat → Value → Prop} {St : Nat → Shared → Prop}
end
section
variable {prog : Program} {w : World} {A : Around} {E : Value → Shared → Prop} {s : Shared}
abbrev emptyS (w : World) : Obj := newSet (!w.params.followText "set-order")
end
section
variable {X : Cx} {C : CC} {W : WX} {a : Expr} {ma : E D} {p p2 q pos : Pos} {k : Nat}
def fSortSet : D → E (List D)
  | .lst ds => fun ρ Q _ z => ∃ ys, strsOf ds = some ys ∧ ys.length < 4000 ∧ Q ((sorT (uniq ys)).map D.str) ρ z
  | _ => eStuck
@[simp] theorem fSortSet_a (ds : List D) (ρ : Rho) (Q : List D → Rho → Zs → Prop) (X : Er → Rho → Zs → Prop) (z : Zs) : fSortSet (.lst ds) ρ Q X z = ∃ ys, strsOf ds = some ys ∧ ys.length < 4000 ∧ Q ((sorT (uniq ys)).map D.str) ρ z := propext Iff.rfl
theorem RpL.txt {K : PySem.W.Frag} {mg : Str → Option Value} {pa : Option Addr} {F : Hp} : ∀ ks : List Str, RpL K mg pa F (ks.map V.str) (ks.map D.str)
  | [] => .nil
  | k :: r => .cons (.str k) (RpL.txt r)
end
end DL

namespace DL
open PySem PySem.Spec PyProof.Rows L2

/-! ## {text for .. in .. for .. in ..} -/
abbrev testsE (ifs : List Expr) (env : PySem.Env) : Sem Bool := forIn ifs true fun c r => if r = true then do let ok ← isTrue c env (eval c env); pure (ForInStep.yield ok) else pure (ForInStep.yield r)
/-- one turn of one clause; `what` is done where the tests hold -/
def turnBy (tg iter : Expr) (ifs : List Expr) (what : Sem Unit) (c : Code) (it : Value) (env : PySem.Env) : Sem Fin := do
  standAt iter.pos
  match ← pyNext it with
  | none => pure (.done .next)
  | some v =>
    letOwnedTupleGo tg it v
    assign tg env v
    let ok ← testsE ifs env
    if ok then (do what; again c) else again c
section
variable {P : Program} {w : World} {A : Around} {R : Result → Shared → Prop} {s : Shared} {elt t0 i0 t1 i1 : Expr} {ifs0 ifs1 : List Expr} {scope : Scope} {pos : Pos} {it acc : Value} {env : PySem.Env}
abbrev scE (elt t0 i0 t1 i1 : Expr) (ifs0 ifs1 : List Expr) (scope : Scope) (pos : Pos) : Expr := .SetComp elt [⟨t0, i0, ifs0, 0⟩, ⟨t1, i1, ifs1, 0⟩] scope pos
def laysText (elt : Expr) (acc : Value) (env : PySem.Env) : Sem Unit := do
  let v ← eval elt env
  standAt elt.pos
  let _ ← call (.builtin "set.add") [acc, v]
def goesIn (e i1 : Expr) (acc : Value) (env : PySem.Env) : Sem Unit := do
  let x ← eval i1 env
  standAt i1.pos
  let x ← foldedSetIterable i1 env x
  let _ ← runOwn (.compStart e 1 (← holding [x] (pyIter x)) acc env) env
end
end DL

namespace DL
open PySem PySem.Spec PyProof.Rows L2
section
variable {P : Program} {w : World} {A : Around} {R : Result → Shared → Prop} {s : Shared} {tg iter : Expr} {ifs : List Expr} {what : Sem Unit} {it acc : Value} {env : PySem.Env} {elt t0 i0 t1 i1 : Expr} {ifs0 ifs1 : List Expr} {scope : Scope} {pos : Pos} {d : Nat}
end
/-- σ knows no more than τ -/
def Wk (σ τ : L2.St) : Prop := σ.length = τ.length ∧ ∀ (j : Nat) v, σ[j]? = some (some v) → τ[j]? = some (some v)
theorem Wk.of {σ τ : L2.St} {vs : List Nat} (h : wipe τ vs = σ) : Wk σ τ := by
  subst h
  exact ⟨wipe_length τ vs, fun j v e => (wipe_some e).1⟩
theorem Wk.trans {σ τ υ : L2.St} (a : Wk σ τ) (b : Wk τ υ) : Wk σ υ := ⟨a.1.trans b.1, fun j v e => b.2 j v (a.2 j v e)⟩
section
variable {Y : Cx} {tg iter : Expr} {ifs : List Expr} {what : Sem Unit} {acc : Value} {elt t0 i0 t1 i1 : Expr} {ifs0 ifs1 : List Expr} {scope : Scope} {pos : Pos} {d : Nat} {it : Addr} {fp : List Addr} {tn : Nat → Heap → Prop} {J : It} {R : Result → Shared → Prop} {pins : List (Addr × Obj)} {g : TG} {tt : TT} {σ0 : L2.St} {vs : List Nat}
end
/-! ### the set as a tracked thing -/
def txO (P : Program) (w : World) (a : Addr) (L : List Str) : HO := .ext fun h => TxS P w h a L
section
variable {X : Cx}
end
end DL

namespace DL
open PySem PySem.Spec PyProof.Rows L2
section
variable {P : Program} {w : World} {A : Around} {R : Result → Shared → Prop} {s : Shared} {elt t0 i0 t1 i1 : Expr} {ifs0 ifs1 : List Expr} {scope : Scope} {pos : Pos} {it acc : Value} {env : PySem.Env}
end
section
variable {X : Cx}
/-- the two loops, D the new set: its members are told at the end -/
def tSc2 (P : Program) (w : World) (wi : TI) (g : TG) (tt : TT) (wi1 : TI) (g1 : TG) (tt1 : TT) (te : TE) (vs vs1 : List Nat) (σ : L2.St) (H : Hp) (Q : Addr → List Str → Hp → Prop) : Prop := wi σ H fun J H1 => ∀ D, H1 D = none → ∃ W : Nat → Nat → Hp → Prop, (∃ m, W 0 m (upd H1 D (txO P w D []))) ∧ ∀ i m H, W i m H →
  (J.stop i H ∧ ∃ L, H D = some (txO P w D L) ∧ Q D L H) ∨ (J.go i H ∧ ∃ Nx : Hp → Prop, (∀ H', Nx H' → ∃ m', m' < m ∧ W (i + 1) m' H') ∧ ∀ x H', J.yld i H x H' → g x (wipe σ vs) H' fun σ2 H2 => wipe σ2 vs = wipe σ vs ∧ tt σ2 H2 fun b H3 => if b = true then
    (wi1 σ2 H3 fun J1 H4 => ∃ W1 : Nat → Nat → Hp → Prop, (∃ m, W1 0 m H4) ∧ ∀ j k H, W1 j k H → (J1.stop j H ∧ Nx H) ∨ (J1.go j H ∧ ∃ Nx1 : Hp → Prop, (∀ H', Nx1 H' → ∃ k', k' < k ∧ W1 (j + 1) k' H') ∧ ∀ x H', J1.yld j H x H' →
      g1 x (wipe σ2 vs1) H' fun σ3 H5 => wipe σ3 vs1 = wipe σ2 vs1 ∧ tt1 σ3 H5 fun b H6 => if b = true then (te σ3 H6 fun y H7 => ∃ k L, y = V.str k ∧ H7 D = some (txO P w D L) ∧ L.length + 1 < scanBound ∧ Nx1 (upd H7 D (txO P w D (stp L k)))) else Nx1 H6))
    else Nx H3)
end
end DL

namespace DL
open PySem PySem.Spec PyProof.Rows L2
def lcS (vs : List Nat) (tg : Tg) (mt : E Bool) (me : E D) : List D → List Str → E (List Str)
  | [], acc => ep acc
  | d :: ds, acc => fun ρ Q X z => tg d ρ fun ρ1 => mt ρ1 (fun t ρ2 z2 => if t = true then me ρ2 (fun y ρ3 z3 => ∃ k, y = D.str k ∧ acc.length < 4000 ∧ lcS vs tg mt me ds (acc ++ [k]) (wipeR ρ3 vs) Q X z3) (fun _ _ _ => False) z2 else lcS vs tg mt me ds acc (wipeR ρ2 vs) Q X z2) (fun _ _ _ => False) z
def lcO (vs : List Nat) (tg : Tg) (mt : E Bool) (mi1 : E (List D)) (vs1 : List Nat) (tg1 : Tg) (mt1 : E Bool) (me : E D) : List D → List Str → E (List Str)
  | [], acc => ep acc
  | d :: ds, acc => fun ρ Q X z => tg d ρ fun ρ1 => mt ρ1 (fun t ρ2 z2 => if t = true then
      mi1 ρ2 (fun ds1 ρ3 z3 => lcS vs1 tg1 mt1 me ds1 acc (wipeR ρ3 vs1) (fun acc2 ρ4 z4 => lcO vs tg mt mi1 vs1 tg1 mt1 me ds acc2 (wipeR ρ4 vs) Q X z4) (fun _ _ _ => False) z3) (fun _ _ _ => False) z2
      else lcO vs tg mt mi1 vs1 tg1 mt1 me ds acc (wipeR ρ2 vs) Q X z2) (fun _ _ _ => False) z
def eSc2 (vs : List Nat) (mi : E (List D)) (tg : Tg) (mt : E Bool) (vs1 : List Nat) (mi1 : E (List D)) (tg1 : Tg) (mt1 : E Bool) (me : E D) : E (List D) :=
  eb mi fun ds ρ Q X z => lcO vs tg mt mi1 vs1 tg1 mt1 me ds [] (wipeR ρ vs) (fun L ρ1 z1 => Q ((sorT (uniq L)).map D.str) ρ1 z1) X z
section
variable {X : Cx} {C : CC} {W : WX} {elt tg iter tg1 iter1 : Expr} {ifs ifs1 : List Expr} {p pos p2 : Pos} {k : Nat} {scope : Scope} {own : List (Str × Nat)} {vs1 : List Nat} {mi mi1 : E (List D)} {g g1 : Tg} {is is1 : List Nat} {mt mt1 : E Bool} {me : E D}
end
end DL

namespace DL
open PySem PySem.Spec PyProof.Rows L2

/-! ## str(a number or a text), int(a text), text.split(..) -/
section
variable {X : Cx} {C : CC} {W : WX} {a b : Expr} {ma : E D} {p p1 p2 pos : Pos} {k : Nat}
def rStrX : List V → Hp → VK → Prop := fun xs H Q => (∃ i, xs = [V.int i] ∧ i.natAbs.log2 < 1920 ∧ Q (.str (toString i)) H) ∨ ∃ s, xs = [V.str s] ∧ Q (.str s) H
def dStr : P1
  | .int i, Q => i.natAbs.log2 < 1920 ∧ Q (.str (toString i))
  | .str s, Q => Q (.str s)
  | _, _ => False
def dIntX : P1
  | .str s, Q => ∃ n, PySem.intText? s = some n ∧ s.length ≤ 640 ∧ Q (.int n)
  | _, _ => False
def fSplit (sep : Str) : D → E (List D)
  | .str s => fun ρ Q _ z => ((sep.length == 0) = false ∧ s.length + 2 ≤ 16777216) ∧ Q ((Txt.split s sep).map D.str) ρ z
  | _ => eStuck
@[simp] theorem fSplit_a (sep s : Str) (ρ : Rho) (Q : List D → Rho → Zs → Prop) (Y : Er → Rho → Zs → Prop) (z : Zs) : fSplit sep (.str s) ρ Q Y z = (((sep.length == 0) = false ∧ s.length + 2 ≤ 16777216) ∧ Q ((Txt.split s sep).map D.str) ρ z) := propext Iff.rfl
@[simp] theorem dStr_int (i : Int) (Q : D → Prop) : dStr (.int i) Q = (i.natAbs.log2 < 1920 ∧ Q (.str (toString i))) := propext Iff.rfl
@[simp] theorem dStr_str (s : Str) (Q : D → Prop) : dStr (.str s) Q = Q (.str s) := propext Iff.rfl
@[simp] theorem dIntX_a (s : Str) (Q : D → Prop) : dIntX (.str s) Q = ∃ n, PySem.intText? s = some n ∧ s.length ≤ 640 ∧ Q (.int n) := propext Iff.rfl
end
/-! ## a try whose body raises nothing -/
section
variable {X : Cx} {C : CC} {W : WX} {body : List Stmt} {h0 : ExceptHandler} {hds : List ExceptHandler} {pos : Pos} {k : Nat} {mb : E Fl}
def sTryN (mb : E Fl) : E Fl := fun ρ Q _ z => mb ρ Q (fun _ _ _ => False) z
@[simp] theorem sTryN_a (ρ : Rho) (Q : Fl → Rho → Zs → Prop) (Y : Er → Rho → Zs → Prop) (z : Zs) : sTryN mb ρ Q Y z = mb ρ Q (fun _ _ _ => False) z := propext Iff.rfl
end
end DL

namespace DL
open PySem PySem.Spec PyProof.Rows L2

/-! ## o[i] by an own __getitem__ that raises nothing -/
structure GetO (K : PySem.W.Frag) (A g : Addr) : Prop where
  at_ : PySem.W.findIn K (.ref A) "__getitem__" = some (some (.ref g))
  fn : PySem.W.isFn K (.ref g) = true
  fi : PySem.W.fnIn K g = true
section
variable {X : Cx} {C : CC} {W : WX} {o b : Expr} {k j : Nat} {c : Str} {A g : Addr} {fd : FuncData} {ps : List Str} {sp : Sp} {pos : Pos}
def rIxO (A : Addr) (sp : Sp) : R2 := fun x y H Q => ∃ a dx fs, x = V.ref a ∧ H a = some (.ins A dx fs) ∧ sp [.ref a, y] H Q (fun _ _ _ => False)
def fIxO (c : Str) (m : List D → E0 D) (d i : D) : E D := fun ρ Q _ z => ((∃ ns ds, d = .ins c ns ds) ∧ ∃ n, i = .int n) ∧ m [d, i] (fun r z' => Q r ρ z') (fun _ _ => False) z
end
@[simp] theorem fIxO_a (c : Str) (ns : List Str) (fs : List D) (m : List D → E0 D) (n : Int) (ρ : Rho) (Q : D → Rho → Zs → Prop) (X : Er → Rho → Zs → Prop) (z : Zs) : fIxO c m (.ins c ns fs) (.int n) ρ Q X z = m [.ins c ns fs, .int n] (fun r z' => Q r ρ z') (fun _ _ => False) z := propext ⟨fun h => h.2, fun h => ⟨⟨⟨_, _, rfl⟩, _, rfl⟩, h⟩⟩
end DL

namespace DL
open PySem PySem.Spec PyProof.Rows L2

/-! ## [.. for x in l], l a list that may change later on -/
def lcLP (P : Zs → Prop) (vs : List Nat) (tg : Tg) (mt : E Bool) (me : E D) : List D → List D → E (List D)
  | [], acc => fun ρ Q _ z => P z ∧ Q acc ρ z
  | d :: ds, acc => fun ρ Q X z => P z ∧ tg d ρ fun ρ1 => mt ρ1 (fun t ρ2 z2 => if t = true then me ρ2 (fun y ρ3 z3 => acc.length < 16777216 ∧ lcLP P vs tg mt me ds (acc ++ [y]) (wipeR ρ3 vs) Q X z3) (fun _ _ _ => False) z2 else lcLP P vs tg mt me ds acc (wipeR ρ2 vs) Q X z2) (fun _ _ _ => False) z
def fLcP (vs : List Nat) (tg : Tg) (mt : E Bool) (me : E D) : D → E (List D)
  | .mc k => fun ρ Q X z => ∃ ds, z.cs[k]? = some (.lst ds) ∧ lcLP (fun z => z.cs[k]? = some (.lst ds)) vs tg mt me ds [] (wipeR ρ vs) Q X z
  | .lst ds => fun ρ Q X z => lcLP (fun _ => True) vs tg mt me ds [] (wipeR ρ vs) Q X z
  | _ => eStuck
def eLcP (vs : List Nat) (mi : E D) (tg : Tg) (mt : E Bool) (me : E D) : E (List D) := eb mi (fLcP vs tg mt me)
section
variable {X : Cx} {C : CC} {W : WX} {elt tg iter : Expr} {ifs : List Expr} {pos : Pos} {k : Nat} {scope : Scope} {own : List (Str × Nat)}
def fInsC (ms : E (List D)) : D → E Fl
  | .mc k => fun ρ Q X z => (∃ ds, z.cs[k]? = some (.lst ds)) ∧ ms ρ (fun as ρ' z' => match as with
    | [.int i, y] => ∃ ds, z'.cs[k]? = some (.lst ds) ∧ (0 ≤ i ∧ i < 2 ^ 63 ∧ ds.length < 16777216) ∧ Q .nx ρ' { z' with cs := z'.cs.set k (.lst (insD ds i.toNat y)) }
    | _ => False) X z
  | _ => eStuck
variable {a b c : Expr} {ms : E (List D)} {mb : E D} {p1 p2 p3 : Pos}
end
section
variable (ρ : Rho) (Q : Fl → Rho → Zs → Prop) (Y : Er → Rho → Zs → Prop) (z : Zs)
end
end DL

namespace DL
open PySem PySem.Spec PyProof.Rows L2

/-! ## o[i] by an own __getitem__ that may raise -/
section
variable {X : Cx} {C : CC} {W : WX} {o b : Expr} {k j : Nat} {c : Str} {A g : Addr} {fd : FuncData} {ps : List Str} {sp : Sp} {pos : Pos}
def tIxR (A : Addr) (sp : Sp) (W : WX) (ta tb : TE) : TE := fun σ H Q => ta σ H fun x H1 => tb σ H1 fun y H2 => ∃ a dx fs, x = V.ref a ∧ H2 a = some (.ins A dx fs) ∧ sp [.ref a, y] H2 Q (WE W σ)
def fIxR {α : Type} (c : Str) (m : List D → E0 α) (mb : E D) (d : D) : E α := fun ρ Q X z => (∃ ns ds, d = .ins c ns ds) ∧ mb ρ (fun i ρ' z' => (∃ n, i = .int n) ∧ e0 (m [d, i]) ρ' Q X z') X z
end
@[simp] theorem fIxR_a {α : Type} (c : Str) (ns : List Str) (fs : List D) (m : List D → E0 α) (mb : E D) (ρ : Rho) (Q : α → Rho → Zs → Prop) (X : Er → Rho → Zs → Prop) (z : Zs) : fIxR c m mb (.ins c ns fs) ρ Q X z = mb ρ (fun i ρ' z' => (∃ n, i = .int n) ∧ m [.ins c ns fs, i] (fun r z' => Q r ρ' z') (fun e z' => X e ρ' z') z') X z := propext ⟨fun h => h.2, fun h => ⟨⟨_, _, rfl⟩, h⟩⟩

/-! ## o.m(k=e) -/
section
variable {X : Cx} {C : CC} {W : WX} {o : Expr} {k j n N : Nat} {m c : Str} {A g : Addr} {fd : FuncData} {ps ks : List Str} {sp : Sp} {ta : TE} {tk : TA} {apos pos : Pos} {kws : List Keyword} {pl : Sem Bool}
def tMK (A : Addr) (m : Str) (l : Nat) (sp : Sp) (W : WX) (ta : TE) (tk : TA) : TE := fun σ H Q => ta σ H fun x H1 => ∃ a dx fs, x = .ref a ∧ H1 a = some (.ins A dx fs) ∧ fs.lookup m = none ∧ tk σ H1 fun zs H2 => zs.length = l ∧ sp (gKW [.ref a] zs) H2 Q (WE W σ)
def fMethK {α : Type} (c m : Str) (n l : Nat) (mm : List D → E0 α) (mk : E (List D)) (d : D) : E α := fun ρ Q X z => (∃ ns fs, d = .ins c ns fs ∧ m ∉ ns) ∧ mk ρ (fun es ρ' z' => es.length = l ∧ l + 1 = n ∧ e0 (mm (d :: es)) ρ' Q X z') X z
abbrev eMethK {α : Type} (c m : Str) (n l : Nat) (mm : List D → E0 α) (mo : E D) (mk : E (List D)) : E α := eb mo fun d => fMethK c m n l mm mk d
end
@[simp] theorem fMethK_a {α : Type} (c m : Str) (n l : Nat) (mm : List D → E0 α) (mk : E (List D)) (ns : List Str) (fs : List D) (ρ : Rho) (Q : α → Rho → Zs → Prop) (X : Er → Rho → Zs → Prop) (z : Zs) (h : m ∉ ns) : fMethK c m n l mm mk (.ins c ns fs) ρ Q X z = mk ρ (fun es ρ' z' => es.length = l ∧ l + 1 = n ∧ mm (.ins c ns fs :: es) (fun r z' => Q r ρ' z') (fun e z' => X e ρ' z') z') X z := propext ⟨fun h => h.2, fun q => ⟨⟨_, _, rfl, h⟩, q⟩⟩
end DL

namespace DL
open PySem PySem.Spec PyProof.Rows L2
/-! ## {**d, "k": v, ..} -/
section
variable {prog : Program} {w : World} {K : Type} [DecidableEq K] {knd : KeyKind prog w K} {A : Around} {E : Value → Shared → Prop} {s : Shared}
end
end DL

namespace DL
open PySem PySem.Spec PyProof.Rows L2
section
variable {prog : Program} {w : World} {K : Type} [DecidableEq K] {knd : KeyKind prog w K} {A : Around} {E : Value → Shared → Prop} {s : Shared}
end
def tSpread (tb : TE) (trs : List (TE × TE)) : TE := fun σ H Q => ∀ p, H p = none → tb σ (upd H p (.dK [])) fun x H1 => ∃ (a : Addr) (kvs : List (Key × V)), x = .ref a ∧ a ≠ p ∧ Rd H1 a (.dK kvs) ∧ H1 p = some (.dK []) ∧ kvs.length ≤ 100 ∧
  ∀ q, upd H1 p (.dK kvs) q = none → tPairs trs σ (upd (upd H1 p (.dK kvs)) q (.dK [])) fun ps H2 => H2 p = some (.dK kvs) ∧ H2 q = some (.dK []) ∧ ∃ more : List (Key × V), ps = more.map (fun kv => (kV kv.1, kv.2)) ∧ more.length ≤ 15 ∧
    Q (.ref p) (upd (upd H2 q (.dK (mergeK [] more))) p (.dK (mergeK kvs (mergeK [] more))))
end DL

namespace DL
open PySem PySem.Spec PyProof.Rows L2
/-- whatever is known of an expression -/
def tU (X : Cx) (v : Expr) : TE := fun σ H Q => ∃ t, PE X v t ∧ t σ H Q
theorem pe_U {X : Cx} {v : Expr} : PE X v (tU X v) := ⟨fun pins s σ H Q I h => by
  obtain ⟨t, h1, h2⟩ := h
  exact h1.run pins s σ H Q I h2⟩
def uT (X : Cx) : List Str → List Expr → List (TE × TE)
  | y :: ks, v :: vs => (tC (.str y), tU X v) :: uT X ks vs
  | _, _ => []
/-- the pairs of a display: texts, and what stands at them -/
structure XPs (X : Cx) (C : CC) (W : WX) (pos : Pos) (keys : List (Option Expr)) (values : List Expr) (ks : List Str) (m : E (List D)) : Prop where
  pp : PPs X pos keys values (uT X ks values)
  den : Den C W (tPairs (uT X ks values)) m (fun _ F' _ (ps : List (V × V)) ds => ∃ vs, ps = (ks.map V.str).zip vs ∧ vs.length = ks.length ∧ C.RL F' vs ds)
section
variable {X : Cx} {C : CC} {W : WX} {pos pk : Pos} {keys : List (Option Expr)} {values : List Expr} {ks : List Str} {m : E D} {ms : E (List D)} {v b : Expr} {y : Str}
end
def dputs : List Key → List D → List Key → List D → List Key × List D
  | js, es, k :: ks, d :: ds => dputs (dputL js es k d).1 (dputL js es k d).2 ks ds
  | js, es, _, _ => (js, es)
def skeys (ks : List Str) : List Key := ks.map Sum.inr
def eDsp (ks : List Str) (ms : E (List D)) : E D := eb ms fun ds ρ Q _ z => Q (.dic (skeys ks) ds) ρ z
def fSpr (ks : List Str) (ms : E (List D)) : D → E D
  | .dic js es => fun ρ Q X z => js.length ≤ 100 ∧ ms ρ (fun ds ρ' z' => Q (.dic (dputs js es (skeys ks) ds).1 (dputs js es (skeys ks) ds).2) ρ' z') X z
  | _ => eStuck
def eSpr (mb : E D) (ks : List Str) (ms : E (List D)) : E D := eb mb (fSpr ks ms)
section
variable {X : Cx} {C : CC} {W : WX} {pos pk : Pos} {keys : List (Option Expr)} {values : List Expr} {ks : List Str} {k : Nat} {mb : E D} {ms : E (List D)} {v b : Expr}
/-- what was hidden is frozen -/
theorem StOk.show {σ : L2.St} {ρ ρ0 : Rho} {F H F0 H0 : Hp} {z z0 : Zs} {p : Addr} {o : HO} (S0 : StOk C σ ρ0 F0 H0 z0) (h0 : H0 p = none) (S : StOk (C.hide p) σ ρ F H z) (ol : Ole ρ ρ0) (n : NG o) : StOk C σ ρ (upd F p o) (upd H p o) z := by
  have f := (S.hd p List.mem_cons_self).1
  have np := S0.npa h0
  have n0 := S0.h0None h0 np
  exact ((S.hidUpd (o := o) List.mem_cons_self n0).unhide).freeze upd_same f n0 np (S0.notOwn h0 ol) (S0.notHid h0) n
end
end DL

namespace DL
open PySem PySem.Spec PyProof.Rows L2
/-! ## x.extend(l) of an own list -/
def sExt (i : Nat) (m : E D) : E Fl := fun ρ Q X z => match ρ[i]? with
  | some (.own _) => m ρ (fun y ρ' z' => match y, ρ'[i]? with
    | .lst es, some (.own ds) => ds.length + es.length ≤ 16777216 ∧ Q .nx (ρ'.set i (.own (ds ++ es))) z'
    | _, _ => False) X z
  | _ => False
section
variable {X : Cx} {C : CC} {W : WX} {e a b : Expr} {m ma mb : E D} {pos p p1 p2 p3 : Pos} {k : Nat} {x : Str}
end
@[simp] theorem sExt_a (i : Nat) (m : E D) (t : Sl) (ρ : Rho) (Q : Fl → Rho → Zs → Prop) (X : Er → Rho → Zs → Prop) (z : Zs) : sExt i m (t :: ρ) Q X z = (match (t :: ρ)[i]? with
  | some (.own _) => m (t :: ρ) (fun y ρ' z' => match y, ρ'[i]? with
    | .lst es, some (.own ds) => ds.length + es.length ≤ 16777216 ∧ Q .nx (ρ'.set i (.own (ds ++ es))) z'
    | _, _ => False) X z
  | _ => False) := propext Iff.rfl

/-! ## x.pop() of an own list, within an expression that begins with it -/
def DenW {α β : Type} (C : CC) (W : WX) (t : L2.St → Hp → (β → Hp → Prop) → Prop) (m : E α) (R : Hp → Hp → Hp → β → α → Prop) : Prop :=
  ∀ (σ : L2.St) (ρ : Rho) (F H : Hp) (z : Zs) (Qd : α → Rho → Zs → Prop) (Xd : Er → Rho → Zs → Prop) (Q : β → Hp → Prop), StOk C σ ρ F H z → m ρ Qd Xd z →
    (∀ a ρ' z' b F' H', Qd a ρ' z' → StOk C σ ρ' F' H' z' → Same F F' → R H F' H' b a → Q b H') →
    (∀ e ρ' z' cls dd F' H', Xd e ρ' z' → StOk C σ ρ' F' H' z' → Same F F' → ExR C F' H' e cls dd → W cls dd σ H') → t σ H Q
structure XEW (X : Cx) (C : CC) (W : WX) (e : Expr) (m : E D) : Prop where
  ex : ∃ t, PE X e t ∧ DenW C W t m (kR C)
def ePopI (i : Nat) : E D := fun ρ Q _ z => match ρ[i]? with
  | some (.own ds) => ∃ d, ds.getLast? = some d ∧ Q d (ρ.set i (.own ds.dropLast)) z
  | _ => False
section
variable {X : Cx} {C : CC} {W : WX} {e a b : Expr} {es : List Expr} {m ma mb : E D} {pos p p1 p2 p3 : Pos} {k : Nat} {x : Str}
end
@[simp] theorem ePopI_a (i : Nat) (t : Sl) (ρ : Rho) (Q : D → Rho → Zs → Prop) (X : Er → Rho → Zs → Prop) (z : Zs) : ePopI i (t :: ρ) Q X z = (match (t :: ρ)[i]? with
  | some (.own ds) => ∃ d, ds.getLast? = some d ∧ Q d ((t :: ρ).set i (.own ds.dropLast)) z
  | _ => False) := propext Iff.rfl
/-! ## l[::s], s one or less one -/
def tStepL (K : PySem.W.Frag) (te : TE) (ts : TO) : TE := fun σ H Q => te σ H fun x H1 => ts σ H1 fun o H2 => ∃ a xs, x = .ref a ∧ SqL K H2 a xs ∧ ((o = some 1 ∧ ∀ p, H2 p = none → Q (.ref p) (upd H2 p (.lst xs))) ∨ (o = some (-1) ∧ ∀ p, H2 p = none → Q (.ref p) (upd H2 p (.lst xs.reverse))))
def fStep : D → D → E (List D)
  | .lst ds, .int i => fun ρ Q _ z => if i = 1 then Q ds ρ z else if i = -1 then Q ds.reverse ρ z else False
  | _, _ => eStuck
section
variable {X : Cx} {C : CC} {W : WX} {e st : Expr} {m ms : E D} {p3 pos : Pos}
end
@[simp] theorem fStep_a (ds : List D) (i : Int) (ρ : Rho) (Q : List D → Rho → Zs → Prop) (X : Er → Rho → Zs → Prop) (z : Zs) : fStep (.lst ds) (.int i) ρ Q X z = (if i = 1 then Q ds ρ z else if i = -1 then Q ds.reverse ρ z else False) := propext Iff.rfl
end DL

namespace DL
open PySem PySem.Spec PyProof.Rows L2
/-! ## a, b, c = [..], [..], x and a, b, c = [..], x, y -/
def sP3OOF (i j l : Nat) (mo mp : E (List D)) (me : E D) : E Fl := eb mo fun ds => eb mp fun es => eb me fun d ρ Q _ z => Q .nx (((ρ.set i (.own ds)).set j (.own es)).set l (.fr d)) z
def sP3OFF (i j l : Nat) (mo : E (List D)) (me mf : E D) : E Fl := eb mo fun ds => eb me fun d => eb mf fun e ρ Q _ z => Q .nx (((ρ.set i (.own ds)).set j (.fr d)).set l (.fr e)) z
section
variable {X : Cx} {C : CC} {W : WX} {k : Nat} {x y v : Str} {a b c : Expr} {px py pv pt pos : Pos} {mo mp : E (List D)} {me mf : E D}
end
@[simp] theorem sP3OOF_a (i j l : Nat) (mo mp : E (List D)) (me : E D) (ρ : Rho) (Q : Fl → Rho → Zs → Prop) (X : Er → Rho → Zs → Prop) (z : Zs) : sP3OOF i j l mo mp me ρ Q X z = mo ρ (fun ds ρ1 z1 => mp ρ1 (fun es ρ2 z2 => me ρ2 (fun d ρ3 z3 => Q .nx (((ρ3.set i (.own ds)).set j (.own es)).set l (.fr d)) z3) X z2) X z1) X z := propext Iff.rfl
@[simp] theorem sP3OFF_a (i j l : Nat) (mo : E (List D)) (me mf : E D) (ρ : Rho) (Q : Fl → Rho → Zs → Prop) (X : Er → Rho → Zs → Prop) (z : Zs) : sP3OFF i j l mo me mf ρ Q X z = mo ρ (fun ds ρ1 z1 => me ρ1 (fun d ρ2 z2 => mf ρ2 (fun e ρ3 z3 => Q .nx (((ρ3.set i (.own ds)).set j (.fr d)).set l (.fr e)) z3) X z2) X z1) X z := propext Iff.rfl
@[simp] theorem eDsp_a (ks : List Str) (ms : E (List D)) (ρ : Rho) (Q : D → Rho → Zs → Prop) (X : Er → Rho → Zs → Prop) (z : Zs) : eDsp ks ms ρ Q X z = ms ρ (fun ds ρ' z' => Q (.dic (skeys ks) ds) ρ' z') X z := propext Iff.rfl
@[simp] theorem eSpr_a (mb : E D) (ks : List Str) (ms : E (List D)) (ρ : Rho) (Q : D → Rho → Zs → Prop) (X : Er → Rho → Zs → Prop) (z : Zs) : eSpr mb ks ms ρ Q X z = mb ρ (fun b ρ' z' => fSpr ks ms b ρ' Q X z') X z := propext Iff.rfl
@[simp] theorem fSpr_a (js : List Key) (es : List D) (ks : List Str) (ms : E (List D)) (ρ : Rho) (Q : D → Rho → Zs → Prop) (X : Er → Rho → Zs → Prop) (z : Zs) : fSpr ks ms (.dic js es) ρ Q X z = (js.length ≤ 100 ∧ ms ρ (fun ds ρ' z' => Q (.dic (dputs js es (skeys ks) ds).1 (dputs js es (skeys ks) ds).2) ρ' z') X z) := propext Iff.rfl
end DL

namespace DL
open PySem PySem.Spec PyProof.Rows L2
/-! ## a def with defaults, all values written -/
end DL

namespace DL
open PySem PySem.Spec PyProof.Rows L2
/-! ## a or b, a a text -/
def fOrT (m2 : E D) : D → E D
  | .str s => fun ρ Q X z => s.length ≤ 16777216 ∧ if ((s.length : Int) != 0) = true then Q (.str s) ρ z else m2 ρ Q X z
  | _ => eStuck
def eOrT (m1 m2 : E D) : E D := eb m1 (fOrT m2)
section
variable {X : Cx} {C : CC} {W : WX} {a b : Expr} {rest : List Expr} {m1 m2 : E D} {pos : Pos}
end
@[simp] theorem eOrT_a (m1 m2 : E D) (ρ : Rho) (Q : D → Rho → Zs → Prop) (X : Er → Rho → Zs → Prop) (z : Zs) : eOrT m1 m2 ρ Q X z = m1 ρ (fun d ρ' z' => fOrT m2 d ρ' Q X z') X z := propext Iff.rfl
@[simp] theorem fOrT_s (m2 : E D) (s : Str) (ρ : Rho) (Q : D → Rho → Zs → Prop) (X : Er → Rho → Zs → Prop) (z : Zs) : fOrT m2 (.str s) ρ Q X z = (s.length ≤ 16777216 ∧ if ((s.length : Int) != 0) = true then Q (.str s) ρ z else m2 ρ Q X z) := propext Iff.rfl
end DL

namespace DL
open PySem PySem.Spec PyProof.Rows L2
/-! ## t[::-1] of a tuple of two, t < u of tuples of two whole numbers -/
section
variable {prog : Program} {w : World} {A : Around} {E : Value → Shared → Prop} {s : Shared}
open HT in
open HT in
end
def tRevT (K : PySem.W.Frag) (te : TE) : TE := fun σ H Q => te σ H fun x H1 => ∃ a y z, x = .ref a ∧ SqT K H1 a [y, z] ∧ ∀ p, H1 p = none → Q (.ref p) (upd H1 p (.tup [z, y]))
def fRev2 : D → E D
  | .tup [a, b] => ep (.tup [b, a])
  | _ => eStuck
def dLtT : P2
  | .tup [.int a, .int b], .tup [.int c, .int d], Q => Q (.bl (decide (a < c ∨ a = c ∧ b < d)))
  | _, _, _ => False
section
variable {X : Cx} {C : CC} {W : WX} {e : Expr} {m : E D} {k : Nat} {p1 p2 p3 pos : Pos}
end
@[simp] theorem fRev2_1 (a b : D) : fRev2 (.tup [a, b]) = ep (.tup [b, a]) := funext fun _ => rfl
@[simp] theorem dLtT_1 (a b c d : Int) (Q : D → Prop) : dLtT (.tup [.int a, .int b]) (.tup [.int c, .int d]) Q = Q (.bl (decide (a < c ∨ a = c ∧ b < d))) := propext Iff.rfl
end DL

namespace DL
open PySem PySem.Spec PyProof.Rows L2
/-! ## a, b, c = x, y, [..]; a, b, c = x, [..], y; a, b, c = x, [..], [..] -/
def sP3FFO (i j l : Nat) (me mf : E D) (mo : E (List D)) : E Fl := eb me fun d => eb mf fun e => eb mo fun ds ρ Q _ z => Q .nx (((ρ.set i (.fr d)).set j (.fr e)).set l (.own ds)) z
def sP3FOF (i j l : Nat) (me : E D) (mo : E (List D)) (mf : E D) : E Fl := eb me fun d => eb mo fun ds => eb mf fun e ρ Q _ z => Q .nx (((ρ.set i (.fr d)).set j (.own ds)).set l (.fr e)) z
def sP3FOO (i j l : Nat) (me : E D) (mo mp : E (List D)) : E Fl := eb me fun d => eb mo fun ds => eb mp fun es ρ Q _ z => Q .nx (((ρ.set i (.fr d)).set j (.own ds)).set l (.own es)) z
theorem no_setF {σ : L2.St} {ρ : Rho} {p : Addr} {i : Nat} {v : V} {d : D} (h : ∀ (m : Nat) ys, ρ[m]? = some (.own ys) → σ[m]? ≠ some (some (.ref p))) : ∀ (m : Nat) ys, (ρ.set i (.fr d))[m]? = some (.own ys) → (σ.set i (some v))[m]? ≠ some (some (.ref p)) := fun m ys r1 r2 => by
  rcases get_set r1 with ⟨_, h1, _⟩ | ⟨hne, h1⟩
  · cases h1
  · rw [List.getElem?_set_ne (Ne.symm hne)] at r2
    exact h m ys h1 r2
theorem no_setO {σ : L2.St} {ρ : Rho} {p q : Addr} {i : Nat} {ds : List D} (npq : p ≠ q) (h : ∀ (m : Nat) ys, ρ[m]? = some (.own ys) → σ[m]? ≠ some (some (.ref p))) : ∀ (m : Nat) ys, (ρ.set i (.own ds))[m]? = some (.own ys) → (σ.set i (some (.ref q)))[m]? ≠ some (some (.ref p)) := fun m ys r1 r2 => by
  rcases get_set r1 with ⟨el, h1, hl⟩ | ⟨hne, h1⟩
  · rw [el] at r2
    rcases get_set r2 with ⟨_, w, _⟩ | ⟨hne, _⟩
    · cases w; exact npq rfl
    · exact hne rfl
  · rw [List.getElem?_set_ne (Ne.symm hne)] at r2
    exact h m ys h1 r2
section
variable {X : Cx} {C : CC} {W : WX} {k : Nat} {x y v : Str} {a b c : Expr} {px py pv pt pos : Pos} {mo mp : E (List D)} {me mf : E D}
theorem xs_p3FOO (i j l : Nat) {kt k2 pt2} (kx : Kx X C W k) (hi : X.N[i]? = some x) (hj : X.N[j]? = some y) (hl : X.N[l]? = some v) (hij : i ≠ j) (hil : i ≠ l) (hjl : j ≠ l)
    (hx : X.env.scope.names.lookup x = some .local) (hy : X.env.scope.names.lookup y = some .local) (hv : X.env.scope.names.lookup v = some .local) (ha : XE X C W a me) (hb : XO X C W b mo) (hc : ∀ q, Kx X (C.hide q) W k → XO X (C.hide q) W c mp)
    (hw : swappedStores [.Tuple [.Name x px, .Name y py, .Name v pv] kt pt] (.Tuple [a, b, c] k2 pt2) X.env = pure (some [x, y, v]))
    (hs : swapsWithSole [.Tuple [.Name x px, .Name y py, .Name v pv] kt pt] (.Tuple [a, b, c] k2 pt2) pos.line X.env = pure false := by rfl) (hp : starEach (a :: [b, c]) X.env = (false, eval a X.env) :: starEach [b, c] X.env := by rfl) (hp2 : starEach (b :: [c]) X.env = (false, eval b X.env) :: starEach [c] X.env := by rfl) (h1 : S1 X c := by rfl) :
    XS X C W (.Assign [.Tuple [.Name x px, .Name y py, .Name v pv] kt pt] (.Tuple [a, b, c] k2 pt2) pos) (sP3FOO i j l me mo mp) := by
  obtain ⟨ta, a1, a2⟩ := ha.ex
  obtain ⟨tb, b1, b2⟩ := hb.ex
  refine ⟨_, ps_par3 kx.calm kx.nd hi hj hl hij hil hjl hx hy hv (pa_cons a1 (pa_cons b1 (pa_cons (pe_U (v := c)) pa_nil h1) hp2) hp) hw hs, fun σ ρ F H z Qd Xd Dn S hm hq hxx => ?_⟩
  refine a2 σ ρ F H z _ Xd _ S hm (fun d ρ1 z1 u F1 H1 q1 S1 ff1 k1 o1 r1 => ?_) (fun e ρ' z' cls dd F' H' q S' ff r => hxx e ρ' z' cls dd σ F' H' q S' ff r)
  refine b2 σ ρ1 F1 H1 z1 _ Xd _ S1 q1 (fun ds ρ2 z2 w F2 H2 q2 S2 ff2 k2 o2 ⟨q, xs, e1, e2, e3, e4, e5, e6⟩ => ?_) (fun e ρ' z' cls dd F' H' q S' ff r => hxx e ρ' z' cls dd σ F' H' q S' (ff1.trans ff) r)
  subst e1
  obtain ⟨tc, c1, c2⟩ := (hc q (kx_hide kx)).ex
  have Sh := S2.hideO e3 e2 e5 (S1.notOwn e4 o2)
  refine ⟨tc, c1, c2 σ ρ2 F2 H2 z2 _ Xd _ Sh q2 (fun es ρ3 z3 t F3 H3 q3 S3 ff3 k3 o3 ⟨p, ys, g1, g2, g3, g4, g5, g6⟩ => ?_) (fun e ρ' z' cls dd F' H' q S' ff r => hxx e ρ' z' cls dd σ F' H' q S'.unhide ((ff1.trans ff2).trans ff) r)⟩
  subst g1
  have npq : p ≠ q := fun w => by rw [w, e2] at g4; cases g4
  have fq := (S3.hd q List.mem_cons_self).1
  have h3 : H3 q = some (.lst xs) := k3.ke q _ e2 e5 (nog e3)
  refine ⟨_, _, _, rfl, hq .nx _ z3 F3 H3 q3 ((ff1.trans ff2).trans ff3) _ ?_⟩
  have Sj := (S3.unhide.setF i (Rp.mono (ff2.trans ff3) r1)).setO j h3 fq (S1.h0None e4 e5) e5 (RpL.mono ff3 e6) (no_setF (S1.notOwn e4 (o3.trans o2))) (S1.notHid e4)
  exact Sj.setO l g2 g3 (Sh.h0None g4 g5) g5 g6 (no_setO npq (no_setF (Sh.notOwn g4 o3))) (S2.notHid g4)
end
@[simp] theorem sP3FFO_a (i j l : Nat) (me mf : E D) (mo : E (List D)) (ρ : Rho) (Q : Fl → Rho → Zs → Prop) (X : Er → Rho → Zs → Prop) (z : Zs) : sP3FFO i j l me mf mo ρ Q X z = me ρ (fun d ρ1 z1 => mf ρ1 (fun e ρ2 z2 => mo ρ2 (fun ds ρ3 z3 => Q .nx (((ρ3.set i (.fr d)).set j (.fr e)).set l (.own ds)) z3) X z2) X z1) X z := propext Iff.rfl
@[simp] theorem sP3FOF_a (i j l : Nat) (me : E D) (mo : E (List D)) (mf : E D) (ρ : Rho) (Q : Fl → Rho → Zs → Prop) (X : Er → Rho → Zs → Prop) (z : Zs) : sP3FOF i j l me mo mf ρ Q X z = me ρ (fun d ρ1 z1 => mo ρ1 (fun ds ρ2 z2 => mf ρ2 (fun e ρ3 z3 => Q .nx (((ρ3.set i (.fr d)).set j (.own ds)).set l (.fr e)) z3) X z2) X z1) X z := propext Iff.rfl
@[simp] theorem sP3FOO_a (i j l : Nat) (me : E D) (mo mp : E (List D)) (ρ : Rho) (Q : Fl → Rho → Zs → Prop) (X : Er → Rho → Zs → Prop) (z : Zs) : sP3FOO i j l me mo mp ρ Q X z = me ρ (fun d ρ1 z1 => mo ρ1 (fun ds ρ2 z2 => mp ρ2 (fun es ρ3 z3 => Q .nx (((ρ3.set i (.fr d)).set j (.own ds)).set l (.own es)) z3) X z2) X z1) X z := propext Iff.rfl
end DL

namespace DL
open PySem PySem.Spec PyProof.Rows L2
/-! ## for .. in zip(x, y): of lists and of tuples -/
section
variable {K : PySem.W.Frag} {mg : Str → Option Value} {pa : Option Addr} {F : Hp}
end
def fZipA : List D → E (List D)
  | [.lst ds, .lst es] => ep (zipD ds es)
  | [.tup ds, .tup es] => ep (zipD ds es)
  | _ => eStuck
section
variable {X : Cx} {C : CC} {W : WX} {a b : Expr} {pos p tpos : Pos} {elts : List Expr} {kk : Nat}
end
@[simp] theorem fZipA_1 (ds es : List D) : fZipA [.lst ds, .lst es] = ep (zipD ds es) := funext fun _ => rfl
@[simp] theorem fZipA_2 (ds es : List D) : fZipA [.tup ds, .tup es] = ep (zipD ds es) := funext fun _ => rfl
end DL

namespace DL
open PySem PySem.Spec PyProof.Rows L2
/-! ## a, b, c = x, y, [..] where a name is no plain local: a tuple is laid and taken apart -/
section
variable {X : Cx} {C : CC} {W : WX} {k : Nat} {x y v : Str} {a b c : Expr} {px py pv pt pos : Pos} {mo : E (List D)} {me mf : E D}
end
end DL

namespace DL
open PySem PySem.Spec PyProof.Rows L2
/-! ## d.setdefault(key, [..]) of a dict that changes: what stands there, or a new list that will change -/
def fSdf (mi : E D) (mo : E (List D)) : D → E D
  | .mc c => fun ρ Q X z => (∃ ks es, z.cs[c]? = some (.dic ks es)) ∧ mi ρ (fun i ρ' z' => mo ρ' (fun ds ρ'' z'' => ∃ ks es key, z''.cs[c]? = some (.dic ks es) ∧ keyD i = some key ∧ ks.length < 16777216 ∧
      (∀ d, dlk ks es key = some d → Q d ρ'' z'') ∧
      (dlk ks es key = none → Q (.mc z''.cs.length) ρ'' { z'' with cs := (z''.cs ++ [MC.lst ds]).set c (MC.dic (dputL ks es key (.mc z''.cs.length)).1 (dputL ks es key (.mc z''.cs.length)).2) })) X z') X z
  | _ => eStuck
section
variable {X : Cx} {C : CC} {W : WX} {b e1 e2 : Expr} {mb mi : E D} {mo : E (List D)} {p1 p2 : Pos}
end
@[simp] theorem fSdf_1 (mi : E D) (mo : E (List D)) (c : Nat) (ρ : Rho) (Q : D → Rho → Zs → Prop) (X : Er → Rho → Zs → Prop) (z : Zs) : fSdf mi mo (.mc c) ρ Q X z = ((∃ ks es, z.cs[c]? = some (.dic ks es)) ∧ mi ρ (fun i ρ' z' => mo ρ' (fun ds ρ'' z'' => ∃ ks es key, z''.cs[c]? = some (.dic ks es) ∧ keyD i = some key ∧ ks.length < 16777216 ∧
      (∀ d, dlk ks es key = some d → Q d ρ'' z'') ∧
      (dlk ks es key = none → Q (.mc z''.cs.length) ρ'' { z'' with cs := (z''.cs ++ [MC.lst ds]).set c (MC.dic (dputL ks es key (.mc z''.cs.length)).1 (dputL ks es key (.mc z''.cs.length)).2) })) X z') X z) := propext Iff.rfl
end DL

namespace DL
open PySem PySem.Spec PyProof.Rows L2
/-! ## dict(pairs); {"k": v, ..} that will change, of any values -/
def prsOf : List D → Option (List (Key × D))
  | [] => some []
  | .tup [k, v] :: r => (keyD k).bind fun key => (prsOf r).map fun l => (key, v) :: l
  | _ => none
def fDictP : D → E D
  | .lst ds => fun ρ Q _ z => ∃ ps, prsOf ds = some ps ∧ Q (.dic (dputs [] [] (ps.map (·.1)) (ps.map (·.2))).1 (dputs [] [] (ps.map (·.1)) (ps.map (·.2))).2) ρ z
  | _ => eStuck
section
variable {X : Cx} {C : CC} {W : WX} {x : Str} {p p1 p2 p3 pos : Pos} {k : Nat} {a : Expr} {ma : E D} {keys : List (Option Expr)} {values : List Expr} {ks : List Str} {ms : E (List D)}
def eDspC (ks : List Str) (ms : E (List D)) : E D := eb ms fun ds ρ Q _ z => Q (.mc z.cs.length) ρ { z with cs := z.cs ++ [.dic (skeys ks) ds] }
end
@[simp] theorem fDictP_a (ds : List D) (ρ : Rho) (Q : D → Rho → Zs → Prop) (X : Er → Rho → Zs → Prop) (z : Zs) : fDictP (.lst ds) ρ Q X z = ∃ ps, prsOf ds = some ps ∧ Q (.dic (dputs [] [] (ps.map (·.1)) (ps.map (·.2))).1 (dputs [] [] (ps.map (·.1)) (ps.map (·.2))).2) ρ z := propext Iff.rfl
@[simp] theorem eDspC_a (ks : List Str) (ms : E (List D)) (ρ : Rho) (Q : D → Rho → Zs → Prop) (X : Er → Rho → Zs → Prop) (z : Zs) : eDspC ks ms ρ Q X z = ms ρ (fun ds ρ' z' => Q (.mc z'.cs.length) ρ' { z' with cs := z'.cs ++ [.dic (skeys ks) ds] }) X z := propext Iff.rfl
end DL

namespace DL
open PySem PySem.Spec PyProof.Rows L2
/-! ## a tuple, or a flat thing, in a tuple -/
def rInT (K : PySem.W.Frag) (neg : Bool) : R2 := fun x y H Q => ∃ d ds, Dp K H x d ∧ Dp K H y (.tuple ds) ∧ SeqAt.shaped d = true ∧ SeqAt.shaped (.list ds) = true ∧ Q (.bl (if neg then !ds.any fun z => PyData.eqv z d else ds.any fun z => PyData.eqv z d)) H
section
variable {X : Cx} {C : CC} {W : WX}
def dInY (neg : Bool) : P2
  | .tup as, .tup ds, Q => (isPyL as = true ∧ isPyL ds = true ∧ SeqAt.shaped (.tuple (pyL as)) = true ∧ SeqAt.shaped (.list (pyL ds)) = true) ∧ Q (.bl (if neg then !(pyL ds).any fun z => PyData.eqv z (.tuple (pyL as)) else (pyL ds).any fun z => PyData.eqv z (.tuple (pyL as))))
  | a, b, Q => if neg then dNotInX a b Q else dInX a b Q
def rInYo (K : PySem.W.Frag) (neg : Bool) : R2 := fun x y H Q => rIn K neg x y H Q ∨ rInT K neg x y H Q
end
section
variable (neg : Bool) (s a b c : Str) (i : Int) (as ds : List D) (Q : D → Prop)
@[simp] theorem dInY_s : dInY true (.str s) (.tup ds) Q = dNotInX (.str s) (.tup ds) Q := propext Iff.rfl
@[simp] theorem dInY_s0 : dInY false (.str s) (.tup ds) Q = dInX (.str s) (.tup ds) Q := propext Iff.rfl
@[simp] theorem dInY_t : dInY neg (.tup as) (.tup ds) Q = ((isPyL as = true ∧ isPyL ds = true ∧ SeqAt.shaped (.tuple (pyL as)) = true ∧ SeqAt.shaped (.list (pyL ds)) = true) ∧ Q (.bl (if neg then !(pyL ds).any fun z => PyData.eqv z (.tuple (pyL as)) else (pyL ds).any fun z => PyData.eqv z (.tuple (pyL as))))) := propext Iff.rfl
end
end DL

namespace DL
open PySem PySem.Spec PyProof.Rows L2
/-! ## the least of a list of data (pairs) -/
def rMinT (K : PySem.W.Frag) : List V → Hp → VK → Prop := fun vs H Q => ∃ (a : Addr) (xs : List V) (x : PyData) (ds : List PyData), vs = [V.ref a] ∧ SqL K H a xs ∧ DpAll K H xs (x :: ds) ∧ PySem.W.AlikeAll (x :: ds) ∧ PyData.depthAll (x :: ds) ≤ 60 ∧
  ∀ (i : Nat) v, xs[i]? = some v → (x :: ds)[i]? = some (PySem.W.minD x ds) → Q v H
def dMinT : P1
  | .lst (d :: ds), Q => (isPyL (d :: ds) = true ∧ PySem.W.AlikeAll (pyL (d :: ds)) ∧ PyData.depthAll (pyL (d :: ds)) ≤ 60) ∧ ∀ e ∈ d :: ds, e.py = PySem.W.minD d.py (pyL ds) → Q e
  | _, _ => False
section
variable {C : CC} {W : WX}
end
end DL

namespace DL
open PySem PySem.Spec PyProof.Rows L2
/-! ## list comprehensions of two clauses -/
def lcI (vs1 : List Nat) (tg1 : Tg) (mt1 : E Bool) (me : E D) (K : List D → E (List D)) : List D → List D → E (List D)
  | [], acc => K acc
  | d :: ds, acc => fun ρ Q X z => tg1 d ρ fun ρ1 => mt1 ρ1 (fun t ρ2 z2 => if t = true then me ρ2 (fun y ρ3 z3 => acc.length < 16777216 ∧ lcI vs1 tg1 mt1 me K ds (acc ++ [y]) (wipeR ρ3 vs1) Q X z3) (fun _ _ _ => False) z2 else lcI vs1 tg1 mt1 me K ds acc (wipeR ρ2 vs1) Q X z2) (fun _ _ _ => False) z
def lcL2 (vs vs1 : List Nat) (tg : Tg) (mt : E Bool) (mi1 : E (List D)) (tg1 : Tg) (mt1 : E Bool) (me : E D) : List D → List D → E (List D)
  | [], acc => ep acc
  | d :: ds, acc => fun ρ Q X z => tg d ρ fun ρ1 => mt ρ1 (fun t ρ2 z2 => if t = true then mi1 ρ2 (fun ds1 ρ3 z3 => lcI vs1 tg1 mt1 me (fun acc ρ Q X z => lcL2 vs vs1 tg mt mi1 tg1 mt1 me ds acc (wipeR ρ vs) Q X z) ds1 acc (wipeR ρ3 vs1) Q X z3) (fun _ _ _ => False) z2 else lcL2 vs vs1 tg mt mi1 tg1 mt1 me ds acc (wipeR ρ2 vs) Q X z2) (fun _ _ _ => False) z
def eLc2 (vs vs1 : List Nat) (mi : E (List D)) (tg : Tg) (mt : E Bool) (mi1 : E (List D)) (tg1 : Tg) (mt1 : E Bool) (me : E D) : E (List D) := eb mi fun ds ρ Q X z => lcL2 vs vs1 tg mt mi1 tg1 mt1 me ds [] (wipeR ρ vs) Q X z
@[simp] theorem lcI_nil (vs1 : List Nat) (tg1 : Tg) (mt1 : E Bool) (me : E D) (K : List D → E (List D)) (acc : List D) : lcI vs1 tg1 mt1 me K [] acc = K acc := rfl
@[simp] theorem lcL2_nil (vs vs1 : List Nat) (tg : Tg) (mt : E Bool) (mi1 : E (List D)) (tg1 : Tg) (mt1 : E Bool) (me : E D) (acc : List D) : lcL2 vs vs1 tg mt mi1 tg1 mt1 me [] acc = ep acc := rfl
section
variable {X : Cx} {C : CC} {W : WX} {elt tg iter tg1 iter1 : Expr} {ifs ifs1 : List Expr} {pos : Pos} {k : Nat} {scope : Scope} {own : List (Str × Nat)}
end
end DL

namespace DL
open PySem PySem.Spec PyProof.Rows L2
/-! ## l.count(x) of data -/
def rCountD (K : PySem.W.Frag) : V → List V → Hp → VK → Prop := fun x xs H Q => ∃ (a : Addr) (y : V) (d : PyData) (ds : List PyData), x = V.ref a ∧ xs = [y] ∧ Dp K H (V.ref a) (.list ds) ∧ Dp K H y d ∧
  PyData.plainAll ds = true ∧ d.plain = true ∧ d.depth ≤ 60 ∧ Q (.int ((ds.countP fun z => PyData.eqv z d : Nat) : Int)) H
section
variable {X : Cx} {C : CC} {W : WX} {b e : Expr} {mb me : E D} {p1 p2 : Pos} {k : Nat}
def dCnt (ds : List D) (y : D) (Q : D → Prop) : Prop := (isPyL ds = true ∧ y.isPy = true ∧ PyData.plainAll (pyL ds) = true ∧ y.py.plain = true ∧ y.py.depth ≤ 60) ∧ Q (.int (((pyL ds).countP fun z => PyData.eqv z y.py : Nat) : Int))
def fCnt (me : E D) : D → E D
  | .lst ds => eb me fun y => eP (dCnt ds y)
  | _ => eStuck
end
section
variable (ds : List D) (y : D) (ρ : Rho) (Q : D → Rho → Zs → Prop) (X : Er → Rho → Zs → Prop) (z : Zs)
@[simp] theorem fCnt_a (me : E D) : fCnt me (.lst ds) ρ Q X z = me ρ (fun y ρ' z' => dCnt ds y fun d => Q d ρ' z') X z := propext Iff.rfl
end
end DL

namespace DL
open PySem PySem.Spec PyProof.Rows L2
/-! ## dicts whose keys are tuples of numbers and texts -/
def keysOf : List D → Option (List Key)
  | [] => some []
  | d :: r => match keyD d, keysOf r with
    | some k, some ks => some (k :: ks)
    | _, _ => none
def dlkT : List (List Key) → List D → List Key → Option D
  | k :: ks, d :: ds, y => if k = y then some d else dlkT ks ds y
  | _, _, _ => none
def dputT (ks : List (List Key)) (ds : List D) (k : List Key) (y : D) : List (List Key) × List D :=
  if (ks.any fun j => decide (j = k)) = true then (ks, List.zipWith (fun j d => if j = k then y else d) ks ds) else (ks ++ [k], ds ++ [y])
section
variable {K : PySem.W.Frag} {mg : Str → Option Value} {pa : Option Addr} {F : Hp}
end
/-! ### setdefault -/
section
variable {X : Cx} {pins : List (Addr × Obj)} {σ : L2.St} {H : Hp} {s : Shared} {a b : Addr} {u r : Value} {d : V} {k : List Key} {A : Around} {E : Value → Shared → Prop}
end
def tDSetdT (td ty tx : TE) : TE := fun σ H Q => td σ H fun x H1 => ∃ a, x = .ref a ∧ IsD H1 a ∧ ty σ H1 fun y H2 => tx σ H2 fun z H3 => ∃ (kvs : List (List Key × V)) (k : List Key) (b : Addr), H3 a = some (.dT kvs) ∧ y = .ref b ∧ H3 b = some (.tup (k.map kV)) ∧ kvs.length < sizeLine ∧
  (∀ v, valV kvs k = some v → Q v H3) ∧ (valV kvs k = none → Q z (upd H3 a (.dT (putK kvs k z))))
section
variable {X : Cx} {o e f : Expr} {td ty tx : TE} {apos cpos : Pos}
end
def fNewT : E D := fun ρ Q _ z => Q (.mc z.cs.length) ρ { z with cs := z.cs ++ [.dit [] []] }
/-- d.setdefault(tuple(l), [..]) -/
def fSdfT (ml : E D) (mo : E (List D)) : D → E D
  | .mc c => fun ρ Q X z => (∃ ks es, z.cs[c]? = some (.dit ks es)) ∧ ml ρ (fun x ρ' z' => ∃ ts, x = .lst ts ∧ ts.length ≤ 16777216 ∧ mo ρ' (fun ds ρ'' z'' => ∃ ks es key, z''.cs[c]? = some (.dit ks es) ∧ keysOf ts = some key ∧ ks.length < 16777216 ∧
      (∀ d, dlkT ks es key = some d → Q d ρ'' z'') ∧
      (dlkT ks es key = none → Q (.mc z''.cs.length) ρ'' { z'' with cs := (z''.cs ++ [MC.lst ds]).set c (MC.dit (dputT ks es key (.mc z''.cs.length)).1 (dputT ks es key (.mc z''.cs.length)).2) })) X z') X z
  | _ => eStuck
section
variable {X : Cx} {C : CC} {W : WX} {b e1 e2 : Expr} {mb ml : E D} {mo : E (List D)} {p p0 p1 p2 pos : Pos} {k : Nat}
end
/-! ### [f(d[k]) for k in d] -/
def lcK (c : Nat) (u : HO) (m : List D → E0 (List D)) : List D → List D → E (List D)
  | [], acc => ep acc
  | d :: r, acc => fun ρ Q X z => acc.length < 16777216 ∧ m [d] (fun ds z' => z'.cs[c]? = some (.raw u) ∧ lcK c u m r (acc ++ [.lst ds]) ρ Q X z') (fun _ _ => False) z
def eLcK (i v : Nat) (m : List D → E0 (List D)) : E (List D) := fun ρ Q X z => match ρ[i]? with
  | some (.fr (.mc c)) => v < ρ.length ∧ ∃ ks es, z.cs[c]? = some (.dit ks es) ∧ ks.Nodup ∧ ∀ u : HO, lcK c u m es [] (wipeR ρ [v]) (fun l ρ' z' => Q l ρ' { z' with cs := z'.cs.set c (.dit ks es) }) X { z with cs := z.cs.set c (.raw u) }
  | _ => False
section
variable {X : Cx} {C : CC} {W : WX} {k i v j : Nat} {x g kk : Str} {scope : Scope} {f : Addr} {fd : FuncData} {ps : List Str} {m : List D → E0 (List D)} {p1 p2 p3 p4 p5 p6 pg pos : Pos}
end
end DL

namespace DL
open PySem PySem.Spec PyProof.Rows L2
/-! ## a call that sees no thing that changes: its own are forgotten behind it, ours stay as they are -/
section
variable {K : PySem.W.Frag} {mg : Str → Option Value} {pa : Option Addr} {F G : Hp}
mutual
theorem Rp.sb (s : Sub F G) : ∀ {d : D} {v : V}, d.noC = true → Rp K mg pa F v d → Rp K mg pa G v d
  | .non, _, _, h => by cases h; exact .non
  | .bl _, _, _, h => by cases h; exact .bl _
  | .int _, _, _, h => by cases h; exact .int _
  | .str _, _, _, h => by cases h; exact .str _
  | .lst _, _, c, h => by cases h with | lst n e r => exact .lst n (s _ _ e ngL) (RpL.sb s c r)
  | .tup _, _, c, h => by cases h with | tup e r => exact .tup (sqtSub s e) (RpL.sb s c r)
  | .cel, _, c, _ => by cases c
  | .ins _ _ _, _, c, h => by cases h with | ins g e l r => exact .ins g (s _ _ e ngI) l (RpL.sb s c r)
  | .dic _ _, _, c, h => by cases h with | dic e l r => exact .dic (rdSub s e ngD) l (RpL.sb s c r)
  | .exn _ _ _ _, _, c, h => by cases h with | exn e r => exact .exn (s _ _ e ngX) (Rp.sb s c r)
  | .scr _, _, _, h => by cases h with | scr e => exact .scr (sqlSub s e)
  | .mc _, _, c, _ => by cases c
theorem RpL.sb (s : Sub F G) : ∀ {ds : List D} {vs : List V}, noCL ds = true → RpL K mg pa F vs ds → RpL K mg pa G vs ds
  | [], _, _, h => by cases h; exact .nil
  | d :: r, _, c, h => by
    obtain ⟨c1, c2⟩ := Bool.and_eq_true_iff.mp (show (d.noC && noCL r) = true from c)
    cases h with | cons a b => exact .cons (Rp.sb s c1 a) (RpL.sb s c2 b)
end
end
/-- the marks of F over the rest of F' -/
noncomputable def mkF (F F' : Hp) : Hp := fun b => by classical exact if ∃ k, F b = some (gh k) then F b else ug F' b
theorem mkF_in {F F' : Hp} {b : Addr} (h : ∃ k, F b = some (gh k)) : mkF F F' b = F b := by
  unfold mkF
  rw [if_pos h]
theorem mkF_out {F F' : Hp} {b : Addr} (h : ¬ ∃ k, F b = some (gh k)) : mkF F F' b = ug F' b := by
  unfold mkF
  rw [if_neg h]
theorem ngu {F : Hp} : ∀ b k, ug F b ≠ some (gh k) := fun b k e => (ug_some e).2 k rfl
section
variable {C : CC} {σ : L2.St} {ρ : Rho} {F H F' H' : Hp} {z z' : Zs}
theorem StOk.frame (S : StOk C σ ρ F H z) (a : Aft C.K C.mg C.pa (ug F) H F' H' z') :
    StOk C σ ρ (mkF F F') H' { z' with cs := z.cs } ∧ Same F (mkF F F') ∧ Keep C.pa F (mkF F F') H H' ∧ Sub F' (mkF F F') := by
  obtain ⟨ff, sub, hk, nw, pz, cs⟩ := a
  have mk0 : ∀ b, (∃ k, F b = some (gh k)) → F' b = none := fun b ⟨k, e⟩ => by
    obtain ⟨o, c, e1, _⟩ := S.cs.get e
    cases q : F' b with
    | none => rfl
    | some o' =>
      have hu : ug F b = none := by
        cases w : ug F b with
        | none => rfl
        | some u =>
          obtain ⟨w1, w2⟩ := ug_some w
          rw [e] at w1
          cases w1
          exact absurd rfl (w2 k)
      have := nw b (by rw [q]; simp) hu
      rw [e1] at this
      cases this
  have f2 : Same F (mkF F F') := fun b o e => by
    by_cases h : ∃ k, F b = some (gh k)
    · rw [mkF_in h]; exact e
    · have n : NG o := fun k w => h ⟨k, by rw [e, w]⟩
      rw [mkF_out h]
      exact ug_in b o (ff b o (ug_in b o e n)) n
  have k2 : Keep C.pa F (mkF F F') H H' := ⟨fun b o h np g => hk.ke b o h np fun k e => ngu b k e, fun b k e => by
    by_cases h : ∃ k, F b = some (gh k)
    · rw [mkF_in h] at e; exact .inl e
    · rw [mkF_out h] at e; exact absurd e (ngu b k), hk.dm⟩
  have s2 : Sub (mkF F F') H' := fun b o e n => by
    by_cases h : ∃ k, F b = some (gh k)
    · rw [mkF_in h] at e
      obtain ⟨k, w⟩ := h
      rw [e] at w
      cases w
      exact absurd rfl (n k)
    · rw [mkF_out h] at e
      exact sub b o (ug_some e).1 n
  have nw2 : ∀ b, mkF F F' b ≠ none → F b = none → H b = none := fun b h1 h2 => by
    have h : ¬ ∃ k, F b = some (gh k) := fun ⟨k, e⟩ => by rw [h2] at e; cases e
    rw [mkF_out h] at h1
    exact nw b (fun e => h1 (ug_none e)) (ug_none h2)
  refine ⟨S.grow f2 s2 k2 nw2 (fun p e => ?_) ?_, f2, k2, fun b o e n => ?_⟩
  · obtain ⟨p1, r⟩ := pz p e
    obtain ⟨p2, _⟩ := S.pz p e
    have h : ¬ ∃ k, F p = some (gh k) := fun ⟨k, e⟩ => by rw [p2] at e; cases e
    exact ⟨by rw [mkF_out h]; exact ug_none p1, r⟩
  · refine ⟨fun k c e => ?_, fun a k e => ?_, fun a b k e1 e2 => ?_⟩
    · obtain ⟨a, o, e1, e2, e3⟩ := S.cs.at_ k c e
      have npa : some a ≠ C.pa := fun w => by rw [(S.pz a w.symm).1] at e1; cases e1
      exact ⟨a, o, f2 _ _ e1, hk.ke a o e2 npa fun k e => ngu a k e, e3.mono f2⟩
    · rcases k2.gn a k e with q | q
      · exact S.cs.lt a k q
      · by_cases h : ∃ k, F a = some (gh k)
        · rw [mkF_in h] at e; exact S.cs.lt a k e
        · rw [mkF_out h] at e; exact absurd e (ngu a k)
    · have back : ∀ a, mkF F F' a = some (gh k) → F a = some (gh k) := fun a e => by
        by_cases h : ∃ k, F a = some (gh k)
        · rw [mkF_in h] at e; exact e
        · rw [mkF_out h] at e; exact absurd e (ngu a k)
      exact S.cs.inj a b k (back a e1) (back b e2)
  · by_cases h : ∃ k, F b = some (gh k)
    · rw [mk0 b h] at e; cases e
    · rw [mkF_out h]; exact ug_in b o e n
end
def fCallM (n n1 n2 : Nat) (m : List D → E0 D) (gD : List D → List D → List D) (ds es : List D) : E D := fun ρ Q X z => ds.length = n1 ∧ es.length = n2 ∧ (gD ds es).length = n ∧ noCL (gD ds es) = true ∧
  m (gD ds es) (fun d z' => d.noC = true ∧ Q d ρ { z' with cs := z.cs }) (fun e z' => e.2.noC = true ∧ X e ρ { z' with cs := z.cs }) { z with cs := [] }
def fCallMO (n n1 n2 : Nat) (m : List D → E0 (List D)) (gD : List D → List D → List D) (ds es : List D) : E (List D) := fun ρ Q X z => ds.length = n1 ∧ es.length = n2 ∧ (gD ds es).length = n ∧ noCL (gD ds es) = true ∧
  m (gD ds es) (fun d z' => noCL d = true ∧ Q d ρ { z' with cs := z.cs }) (fun e z' => e.2.noC = true ∧ X e ρ { z' with cs := z.cs }) { z with cs := [] }
def eCallM (n n1 n2 : Nat) (m : List D → E0 D) (gD : List D → List D → List D) (ma mk : E (List D)) : E D := eb ma fun ds => eb mk fun es => fCallM n n1 n2 m gD ds es
def eCallMO (n n1 n2 : Nat) (m : List D → E0 (List D)) (gD : List D → List D → List D) (ma mk : E (List D)) : E (List D) := eb ma fun ds => eb mk fun es => fCallMO n n1 n2 m gD ds es
section
variable {X : Cx} {C : CC} {W : WX} {k n j : Nat} {f : Addr} {fd : FuncData} {ps ks : List Str} {sp : Sp} {x : Str} {p pos kpos : Pos} {e : Expr} {es : List Expr} {kws : List Keyword} {t tk : TA} {gV : List V → List V → List V} {gD : List D → List D → List D} {nm : Option Str}
section
variable {N : Nat} {ma mk : E (List D)} {m : List D → E0 D} {mo : List D → E0 (List D)}
end
end
section
variable (n n1 n2 : Nat) (gD : List D → List D → List D) (ma mk : E (List D)) (ρ : Rho) (X : Er → Rho → Zs → Prop) (z : Zs)
@[simp] theorem eCallM_a (m : List D → E0 D) (Q : D → Rho → Zs → Prop) : eCallM n n1 n2 m gD ma mk ρ Q X z = ma ρ (fun ds ρ1 z1 => mk ρ1 (fun es ρ2 z2 => ds.length = n1 ∧ es.length = n2 ∧ (gD ds es).length = n ∧ noCL (gD ds es) = true ∧
  m (gD ds es) (fun d z' => d.noC = true ∧ Q d ρ2 { z' with cs := z2.cs }) (fun e z' => e.2.noC = true ∧ X e ρ2 { z' with cs := z2.cs }) { z2 with cs := [] }) X z1) X z := propext Iff.rfl
@[simp] theorem eCallMO_a (m : List D → E0 (List D)) (Q : List D → Rho → Zs → Prop) : eCallMO n n1 n2 m gD ma mk ρ Q X z = ma ρ (fun ds ρ1 z1 => mk ρ1 (fun es ρ2 z2 => ds.length = n1 ∧ es.length = n2 ∧ (gD ds es).length = n ∧ noCL (gD ds es) = true ∧
  m (gD ds es) (fun d z' => noCL d = true ∧ Q d ρ2 { z' with cs := z2.cs }) (fun e z' => e.2.noC = true ∧ X e ρ2 { z' with cs := z2.cs }) { z2 with cs := [] }) X z1) X z := propext Iff.rfl
end
end DL

namespace DL
open PySem PySem.Spec PyProof.Rows L2
/-! ## lists of things that change: compared and shown as they stand -/
def drd (z : Zs) : Nat → D → D
  | 0, d => dr z d
  | n + 1, .lst ds => .lst (ds.map (drd z n))
  | _ + 1, d => dr z d
section
variable {C : CC} {σ : L2.St} {ρ : Rho} {F H : Hp} {z : Zs}
end
section
variable {X : Cx} {C : CC} {W : WX} {a b : Expr} {ma mb : E D} {pos p : Pos} {k : Nat}
def bZ2 (n : Nat) (ne : Bool) (ma mb : E D) : E D := eb ma fun x => eb mb fun y => fun ρ Q _ z => dEqG (drd z n x) (drd z n y) fun t => Q (.bl (ne != t)) ρ z
def fRepr2 (n : Nat) : D → E D
  | .lst ds => fun ρ Q _ z => reprOk (drd z n (.lst ds)) ∧ Q (.str (drd z n (.lst ds)).py.shown) ρ z
  | _ => eStuck
end
section
variable (n : Nat) (ne : Bool) (ma mb : E D) (ρ : Rho) (Q : D → Rho → Zs → Prop) (X : Er → Rho → Zs → Prop) (z : Zs) (ds : List D)
@[simp] theorem bZ2_a : bZ2 n ne ma mb ρ Q X z = ma ρ (fun x ρ1 z1 => mb ρ1 (fun y ρ2 z2 => dEqG (drd z2 n x) (drd z2 n y) fun t => Q (.bl (ne != t)) ρ2 z2) X z1) X z := propext Iff.rfl
@[simp] theorem fRepr2_a : fRepr2 n (.lst ds) ρ Q X z = (reprOk (drd z n (.lst ds)) ∧ Q (.str (drd z n (.lst ds)).py.shown) ρ z) := propext Iff.rfl
@[simp] theorem drd_lst : drd z (n + 1) (.lst ds) = .lst (ds.map (drd z n)) := rfl
@[simp] theorem drd_0 (d : D) : drd z 0 d = dr z d := rfl
end
end DL

namespace DL
open PySem PySem.Spec PyProof.Rows L2
/-! ## l == [], whatever l holds -/
section
open PySem.SeqAt
open AutoSeq1 (wpAny_loadPart')
open MeetsSeq MeetsSeq2 MeetsSeq3 SeqRoads2
variable {prog : Program} {w : World}
end
def rEqN : R2 := fun x y H Q => ∃ (a b : Addr) (xs : List V), x = .ref a ∧ y = .ref b ∧ H a = some (.lst xs) ∧ H b = some (.lst []) ∧ Q (.bl xs.isEmpty) H
section
variable {X : Cx}
end
def dEqN : P2
  | .lst ds, .lst [], Q => Q (.bl ds.isEmpty)
  | _, _, _ => False
@[simp] theorem dEqN_a (ds : List D) (Q : D → Prop) : dEqN (.lst ds) (.lst []) Q = Q (.bl ds.isEmpty) := propext Iff.rfl
end DL

namespace DL
open PySem PySem.Spec PyProof.Rows L2
/-! ## a, b, c = x, [..], [..] where a name is no plain local: a tuple is laid and taken apart -/
section
variable {X : Cx} {C : CC} {W : WX} {k : Nat} {x y v : Str} {a b c : Expr} {px py pv pt pos : Pos} {mo mp : E (List D)} {me mf : E D}
end
end DL

namespace DL
open PySem PySem.Spec PyProof.Rows L2
/-! ## the greatest of a tuple; the sum of a list of ints -/
def rMaxU (K : PySem.W.Frag) : List V → Hp → VK → Prop := fun vs H Q => ∃ (a : Addr) (xs : List V) (x : PyData) (ds : List PyData), vs = [V.ref a] ∧ SqT K H a xs ∧ DpAll K H xs (x :: ds) ∧ PySem.W.AlikeAll (x :: ds) ∧ PyData.depthAll (x :: ds) ≤ 60 ∧
  ∀ (i : Nat) v, xs[i]? = some v → (x :: ds)[i]? = some (PySem.W.maxD x ds) → Q v H
def dMaxU : P1
  | .tup (d :: ds), Q => (isPyL (d :: ds) = true ∧ PySem.W.AlikeAll (pyL (d :: ds)) ∧ PyData.depthAll (pyL (d :: ds)) ≤ 60) ∧ ∀ e ∈ d :: ds, e.py = PySem.W.maxD d.py (pyL ds) → Q e
  | _, _ => False
def dSumL : P1
  | .lst ds, Q => ∃ ns, intsOf ds = some ns ∧ Q (.int ns.sum)
  | _, _ => False
section
variable {C : CC} {W : WX}
end
@[simp] theorem dSumL_1 (ds : List D) (Q : D → Prop) : dSumL (.lst ds) Q = ∃ ns, intsOf ds = some ns ∧ Q (.int ns.sum) := propext Iff.rfl
/-! the greater one of two ints -/
end DL

namespace DL
open PySem PySem.Spec PyProof.Rows L2
/-! ## calls that see no cells but the purse -/
mutual
def D.noM : D → Bool
  | .lst xs => noML xs
  | .tup xs => noML xs
  | .ins _ _ xs => noML xs
  | .dic _ xs => noML xs
  | .exn _ _ _ e => e.noM
  | .mc _ => false
  | _ => true
def noML : List D → Bool
  | [] => true
  | x :: r => x.noM && noML r
end
section
variable {K : PySem.W.Frag} {mg : Str → Option Value} {pa : Option Addr} {F G : Hp}
end
def fCallQ (n n1 n2 : Nat) (m : List D → E0 D) (gD : List D → List D → List D) (ds es : List D) : E D := fun ρ Q X z => ds.length = n1 ∧ es.length = n2 ∧ (gD ds es).length = n ∧ noML (gD ds es) = true ∧
  m (gD ds es) (fun d z' => d.noC = true ∧ Q d ρ { z' with cs := z.cs }) (fun e z' => e.2.noC = true ∧ X e ρ { z' with cs := z.cs }) { z with cs := [] }
def fCallQO (n n1 n2 : Nat) (m : List D → E0 (List D)) (gD : List D → List D → List D) (ds es : List D) : E (List D) := fun ρ Q X z => ds.length = n1 ∧ es.length = n2 ∧ (gD ds es).length = n ∧ noML (gD ds es) = true ∧
  m (gD ds es) (fun d z' => noCL d = true ∧ Q d ρ { z' with cs := z.cs }) (fun e z' => e.2.noC = true ∧ X e ρ { z' with cs := z.cs }) { z with cs := [] }
def eCallQ (n n1 n2 : Nat) (m : List D → E0 D) (gD : List D → List D → List D) (ma mk : E (List D)) : E D := eb ma fun ds => eb mk fun es => fCallQ n n1 n2 m gD ds es
def eCallQO (n n1 n2 : Nat) (m : List D → E0 (List D)) (gD : List D → List D → List D) (ma mk : E (List D)) : E (List D) := eb ma fun ds => eb mk fun es => fCallQO n n1 n2 m gD ds es
section
variable {X : Cx} {C : CC} {W : WX} {k n j : Nat} {f : Addr} {fd : FuncData} {ps ks : List Str} {sp : Sp} {x : Str} {p pos kpos : Pos} {e : Expr} {es : List Expr} {kws : List Keyword} {t tk : TA} {gV : List V → List V → List V} {gD : List D → List D → List D} {nm : Option Str}
section
variable {N : Nat} {ma mk : E (List D)} {m : List D → E0 D} {mo : List D → E0 (List D)}
end
end
section
variable (n n1 n2 : Nat) (gD : List D → List D → List D) (ma mk : E (List D)) (ρ : Rho) (X : Er → Rho → Zs → Prop) (z : Zs)
@[simp] theorem eCallQ_a (m : List D → E0 D) (Q : D → Rho → Zs → Prop) : eCallQ n n1 n2 m gD ma mk ρ Q X z = ma ρ (fun ds ρ1 z1 => mk ρ1 (fun es ρ2 z2 => ds.length = n1 ∧ es.length = n2 ∧ (gD ds es).length = n ∧ noML (gD ds es) = true ∧
  m (gD ds es) (fun d z' => d.noC = true ∧ Q d ρ2 { z' with cs := z2.cs }) (fun e z' => e.2.noC = true ∧ X e ρ2 { z' with cs := z2.cs }) { z2 with cs := [] }) X z1) X z := propext Iff.rfl
@[simp] theorem eCallQO_a (m : List D → E0 (List D)) (Q : List D → Rho → Zs → Prop) : eCallQO n n1 n2 m gD ma mk ρ Q X z = ma ρ (fun ds ρ1 z1 => mk ρ1 (fun es ρ2 z2 => ds.length = n1 ∧ es.length = n2 ∧ (gD ds es).length = n ∧ noML (gD ds es) = true ∧
  m (gD ds es) (fun d z' => noCL d = true ∧ Q d ρ2 { z' with cs := z2.cs }) (fun e z' => e.2.noC = true ∧ X e ρ2 { z' with cs := z2.cs }) { z2 with cs := [] }) X z1) X z := propext Iff.rfl
end
end DL

namespace DL
open PySem PySem.Spec PyProof.Rows L2
/-! ## things that change within things that change: compared and shown as they stand -/
def drq (z : Zs) : Nat → D → D
  | 0, d => dr z d
  | n + 1, d => match dr z d with
    | .lst ds => .lst (ds.map (drq z n))
    | x => x
section
variable {C : CC} {σ : L2.St} {ρ : Rho} {F H : Hp} {z : Zs}
end
section
variable {X : Cx} {C : CC} {W : WX} {a b : Expr} {ma mb : E D} {pos p : Pos} {k : Nat}
def bZQ (n : Nat) (ne : Bool) (ma mb : E D) : E D := eb ma fun x => eb mb fun y => fun ρ Q _ z => dEqG (drq z n x) (drq z n y) fun t => Q (.bl (ne != t)) ρ z
def fReprQ (n : Nat) (d : D) : E D := fun ρ Q _ z => (∃ ds, dr z d = .lst ds) ∧ reprOk (drq z n d) ∧ Q (.str (drq z n d).py.shown) ρ z
end
section
variable (n : Nat) (ne : Bool) (ma mb : E D) (ρ : Rho) (Q : D → Rho → Zs → Prop) (X : Er → Rho → Zs → Prop) (z : Zs) (d : D)
@[simp] theorem bZQ_a : bZQ n ne ma mb ρ Q X z = ma ρ (fun x ρ1 z1 => mb ρ1 (fun y ρ2 z2 => dEqG (drq z2 n x) (drq z2 n y) fun t => Q (.bl (ne != t)) ρ2 z2) X z1) X z := propext Iff.rfl
@[simp] theorem fReprQ_a : fReprQ n d ρ Q X z = ((∃ ds, dr z d = .lst ds) ∧ reprOk (drq z n d) ∧ Q (.str (drq z n d).py.shown) ρ z) := propext Iff.rfl
@[simp] theorem drq_lst (ds : List D) : drq z (n + 1) (.lst ds) = .lst (ds.map (drq z n)) := rfl
@[simp] theorem drq_0 : drq z 0 d = dr z d := rfl
end
end DL

namespace DL
open PySem PySem.Spec PyProof.Rows L2
/-! ## `x in l` where things that change stand within l; `x[::-1]` of a list that changes -/
def dInL (a b : D) (Q : Bool → Prop) : Prop := ∃ ds, b = .lst ds ∧ (a.isPy = true ∧ isPyL ds = true ∧ SeqAt.shaped a.py = true ∧ SeqAt.shaped (.list (pyL ds)) = true) ∧ Q ((pyL ds).any fun z => PyData.eqv z a.py)
section
variable {X : Cx} {C : CC} {W : WX} {a b : Expr} {ma mb : E D} {pos p p1 p2 p3 : Pos} {k k1 : Nat}
def bZI (n : Nat) (ng : Bool) (ma mb : E D) : E D := eb ma fun x => eb mb fun y => fun ρ Q _ z => dInL (drq z n x) (drq z (n + 1) y) fun t => Q (.bl (ng != t)) ρ z
end
section
variable (n : Nat) (ng : Bool) (ma mb : E D) (ρ : Rho) (Q : D → Rho → Zs → Prop) (X : Er → Rho → Zs → Prop) (z : Zs) (d : D)
@[simp] theorem bZI_a : bZI n ng ma mb ρ Q X z = ma ρ (fun x ρ1 z1 => mb ρ1 (fun y ρ2 z2 => dInL (drq z2 n x) (drq z2 (n + 1) y) fun t => Q (.bl (ng != t)) ρ2 z2) X z1) X z := propext Iff.rfl
end
end DL

namespace DL
open PySem PySem.Spec PyProof.Rows L2
/-! ## the head's second look, in three parts (less memory at once) -/
section
open PySem.W PySem.Calls HandSHeadRun
def runP {β : Type} (r : OpenRow) (H : Hook) (ob : SharedT → H.α) (p : H.α → β) (M : Nat) (w : World) : Prop := ∀ os : OsState, (endF (stepQ (denQ tabQ) r.prog w) M r.prog w os).map (fun s => p (ob s)) = some (p (H.val w))
def alA (n : Nat) (z : AlF) : List He.FnW := z.1.1.1.2.take n
def alB (n : Nat) (z : AlF) : List He.FnW := z.1.1.1.2.drop n
def alC (z : AlF) : ((Bool × List (Option (List (Option (Str × Int))))) × List He.FnW) × Bool := (((z.1.1.1.1, z.1.1.2), z.1.2), z.2)
end
end DL

namespace DL
open PySem PySem.Spec PyProof.Rows L2
/-! ## things that change within lists and tuples: shown as they stand -/
def drw (z : Zs) : Nat → D → D
  | 0, d => dr z d
  | n + 1, d => match dr z d with
    | .lst ds => .lst (ds.map (drw z n))
    | .tup ds => .tup (ds.map (drw z n))
    | x => x
section
variable {C : CC} {σ : L2.St} {ρ : Rho} {F H : Hp} {z : Zs}
end
section
variable {X : Cx} {C : CC} {W : WX} {a b : Expr} {ma mb : E D} {pos p : Pos} {k : Nat}
def bZW (n : Nat) (ne : Bool) (ma mb : E D) : E D := eb ma fun x => eb mb fun y => fun ρ Q _ z => dEqG (drw z n x) (drw z n y) fun t => Q (.bl (ne != t)) ρ z
def fReprW (n : Nat) (d : D) : E D := fun ρ Q _ z => ((∃ ds, dr z d = .lst ds) ∨ ∃ ds, dr z d = .tup ds) ∧ reprOk (drw z n d) ∧ Q (.str (drw z n d).py.shown) ρ z
end
section
variable (n : Nat) (ρ : Rho) (Q : D → Rho → Zs → Prop) (X : Er → Rho → Zs → Prop) (z : Zs) (d : D)
@[simp] theorem bZW_a (ne : Bool) (ma mb : E D) : bZW n ne ma mb ρ Q X z = ma ρ (fun x ρ1 z1 => mb ρ1 (fun y ρ2 z2 => dEqG (drw z2 n x) (drw z2 n y) fun t => Q (.bl (ne != t)) ρ2 z2) X z1) X z := propext Iff.rfl
@[simp] theorem fReprW_a : fReprW n d ρ Q X z = (((∃ ds, dr z d = .lst ds) ∨ ∃ ds, dr z d = .tup ds) ∧ reprOk (drw z n d) ∧ Q (.str (drw z n d).py.shown) ρ z) := propext Iff.rfl
@[simp] theorem drw_lst (ds : List D) : drw z (n + 1) (.lst ds) = .lst (ds.map (drw z n)) := rfl
@[simp] theorem drw_tup (ds : List D) : drw z (n + 1) (.tup ds) = .tup (ds.map (drw z n)) := rfl
@[simp] theorem drw_0 : drw z 0 d = dr z d := rfl
end
end DL

namespace DL
open PySem PySem.Spec PyProof.Rows L2
/-! ## dicts whose keys are ((int, int), bool) -/
def putR (rows : List (NK × Addr × V)) (k : NK) (b : Addr) (v : V) : List (NK × Addr × V) :=
  if (rows.any fun r => decide (r.1 = k)) = true then rows.map (fun r => if r.1 = k then (r.1, r.2.1, v) else r) else rows ++ [(k, b, v)]
def lkR (rows : List (NK × Addr × V)) (k : NK) : Option V := (rows.find? fun r => decide (r.1 = k)).map (·.2.2)
section
variable {X : Cx} {pins : List (Addr × Obj)} {σ : L2.St} {H : Hp} {s : Shared} {a b l : Addr} {rows : List (NK × Addr × V)} {k : NK} {A : Around} {E : Value → Shared → Prop} {v : V} {u r : Value}
end
def tDNewN : TE := fun _ H Q => ∀ p, H p = none → Q (.ref p) (upd H p (.ext (phiN p [])))
def tGetN (K : PySem.W.Frag) (td ty : TE) : TE := fun σ H Q => td σ H fun x H1 => ∃ l a rows, x = .ref l ∧ H1 l = some (.ext (phiN a rows)) ∧ ty σ H1 fun y H2 => ∃ a rows k b, H2 l = some (.ext (phiN a rows)) ∧ y = .ref b ∧ KeyAt K H2 k b ∧ (∀ r ∈ rows, KeyAt K H2 r.1 r.2.1) ∧ Q ((lkR rows k).getD .non) H2
def sPutN (K : PySem.W.Frag) (td ty tv : TE) : TS := fun D σ H => tv σ H fun v H1 => td σ H1 fun x H2 => ty σ H2 fun y H3 => ∃ l a rows k b, x = .ref l ∧ H3 l = some (.ext (phiN a rows)) ∧ y = .ref b ∧ KeyAt K H3 k b ∧ (∀ r ∈ rows, KeyAt K H3 r.1 r.2.1) ∧ rows.length < sizeLine ∧ D.nx σ (upd H3 l (.ext (phiN l (putR rows k b v))))
section
variable {X : Cx} {o e i value : Expr} {td ty tv : TE} {apos cpos pos pos' : Pos}
end
/-! ### the mirror -/
def nkOf : D → Option NK
  | .tup [.tup [.int a, .int b], .bl q] => some ((a, b), q)
  | _ => none
def dlkN : List NK → List D → NK → Option D
  | k :: ks, d :: ds, y => if k = y then some d else dlkN ks ds y
  | _, _, _ => none
def dputN (ks : List NK) (ds : List D) (k : NK) (y : D) : List NK × List D :=
  if (ks.any fun j => decide (j = k)) = true then (ks, List.zipWith (fun j d => if j = k then y else d) ks ds) else (ks ++ [k], ds ++ [y])
section
variable {K : PySem.W.Frag} {mg : Str → Option Value} {pa : Option Addr} {F : Hp}
end
def fNewN : E D := fun ρ Q _ z => Q (.mc z.cs.length) ρ { z with cs := z.cs ++ [.din [] []] }
/-- d.get(((i, j), t)) -/
def fGetN (me : E D) : D → E D
  | .mc c => fun ρ Q X z => (∃ ks ds, z.cs[c]? = some (.din ks ds)) ∧ me ρ (fun y ρ' z' => ∃ ks ds k, z'.cs[c]? = some (.din ks ds) ∧ nkOf y = some k ∧ Q ((dlkN ks ds k).getD .non) ρ' z') X z
  | _ => eStuck
/-- d[((i, j), t)] = y -/
def fSetN (y b i : D) : E Fl := fun ρ Q _ z => match b with
  | .mc c => ∃ ks ds k, z.cs[c]? = some (.din ks ds) ∧ nkOf i = some k ∧ ks.length < 16777216 ∧ Q .nx ρ { z with cs := z.cs.set c (.din (dputN ks ds k y).1 (dputN ks ds k y).2) }
  | _ => False
section
variable {X : Cx} {C : CC} {W : WX} {b e : Expr} {mb me : E D} {p p0 p1 p2 pos : Pos} {k : Nat}
end
section
variable (ρ : Rho) (Q : D → Rho → Zs → Prop) (Qf : Fl → Rho → Zs → Prop) (X : Er → Rho → Zs → Prop) (z : Zs) (c : Nat) (me : E D) (y i : D) (a b : Int) (q : Bool)
@[simp] theorem fNewN_a : fNewN ρ Q X z = Q (.mc z.cs.length) ρ { z with cs := z.cs ++ [.din [] []] } := propext Iff.rfl
@[simp] theorem fGetN_a : fGetN me (.mc c) ρ Q X z = ((∃ ks ds, z.cs[c]? = some (.din ks ds)) ∧ me ρ (fun y ρ' z' => ∃ ks ds k, z'.cs[c]? = some (.din ks ds) ∧ nkOf y = some k ∧ Q ((dlkN ks ds k).getD .non) ρ' z') X z) := propext Iff.rfl
@[simp] theorem fSetN_a : fSetN y (.mc c) i ρ Qf X z = ∃ ks ds k, z.cs[c]? = some (.din ks ds) ∧ nkOf i = some k ∧ ks.length < 16777216 ∧ Qf .nx ρ { z with cs := z.cs.set c (.din (dputN ks ds k y).1 (dputN ks ds k y).2) } := propext Iff.rfl
end
end DL

namespace DL
open PySem PySem.Spec PyProof.Rows L2
/-! ## isinstance(x, list), isinstance(x, (list, tuple)), of things that change too -/
/-- isinstance(x, (list, tuple)) -/
def dIsLT (d : D) (Q : D → Prop) : Prop := ∃ t, tyN d = some t ∧ Q (.bl (decide (t = "list" ∨ t = "tuple")))
section
variable {X : Cx} {C : CC} {W : WX} {a : Expr} {ma : E D} {p p2 p3 pos tpos : Pos} {x : Str} {T : String} {k : Nat}
end
@[simp] theorem dIsLT_1 (Q : D → Prop) : dIsLT .non Q = Q (.bl false) := by simp [dIsLT, tyN]
@[simp] theorem dIsLT_2 (v : Bool) (Q : D → Prop) : dIsLT (.bl v) Q = Q (.bl false) := by simp [dIsLT, tyN]
@[simp] theorem dIsLT_3 (v : Int) (Q : D → Prop) : dIsLT (.int v) Q = Q (.bl false) := by simp [dIsLT, tyN]
@[simp] theorem dIsLT_4 (v : Str) (Q : D → Prop) : dIsLT (.str v) Q = Q (.bl false) := by simp [dIsLT, tyN]
@[simp] theorem dIsLT_5 (v : List D) (Q : D → Prop) : dIsLT (.lst v) Q = Q (.bl true) := by simp [dIsLT, tyN]
@[simp] theorem dIsLT_6 (v : List D) (Q : D → Prop) : dIsLT (.tup v) Q = Q (.bl true) := by simp [dIsLT, tyN]
/-! ## x.append(.. x.pop() ..) -/
section
variable {X : Cx} {C : CC} {W : WX} {e : Expr} {m : E D} {p p1 p2 p3 : Pos} {k : Nat} {x : Str}
end
end DL

namespace DL
open PySem PySem.Spec PyProof.Rows L2
/-! ## b.pop() of a list that changes, with its answer -/
def fPopV : D → E D
  | .mc k => fun ρ Q _ z => ∃ ds d, z.cs[k]? = some (.lst ds) ∧ ds.getLast? = some d ∧ Q d ρ { z with cs := z.cs.set k (.lst ds.dropLast) }
  | _ => eStuck
section
variable {X : Cx} {C : CC} {W : WX} {b : Expr} {mb : E D} {p1 p2 p3 : Pos} {k : Nat}
end
@[simp] theorem fPopV_a (k : Nat) (ρ : Rho) (Q : D → Rho → Zs → Prop) (X : Er → Rho → Zs → Prop) (z : Zs) : fPopV (.mc k) ρ Q X z = ∃ ds d, z.cs[k]? = some (.lst ds) ∧ ds.getLast? = some d ∧ Q d ρ { z with cs := z.cs.set k (.lst ds.dropLast) } := propext Iff.rfl
end DL

namespace DL
open PySem PySem.Spec PyProof.Rows L2

/-! ## sorted(set(a list of ints)): as DMo..DMq, with ints -/
def stpN (σ : List Int) (v : Int) : List Int := if v ∈ σ then σ else σ ++ [v]
def uniqN (xs : List Int) : List Int := xs.foldl stpN []
def keyN : Int × Value → Int := fun e => match e.2 with
  | .int k _ => k
  | _ => (0 : Int)
section
variable {P : Program} {w : World}
def IsNx (P : Program) (w : World) (e : Int × Value) : Prop := ∃ k u, e.2 = Value.int k u ∧ e.1 = (PySem.intKind P w).hash k
theorem IsNx.key {e : Int × Value} (g : IsNx P w e) (k : Int) : (PySem.intKind P w).is k e.2 = true ↔ keyN e = k := by
  obtain ⟨x, u, h1, _⟩ := g
  unfold keyN
  rw [h1]
  exact beq_iff_eq (a := x) (b := k)
theorem nxElems {l : List (Int × Value)} (g : ∀ e ∈ l, IsNx P w e) : ElemsOf (PySem.intKind P w) l := fun e he =>
  match e, g e he with
  | (_, _), ⟨k, u, rfl, h2⟩ => ⟨⟨k, intKind_is P w k u, h2⟩, rfl⟩
/-- the members in the order in which they came -/
structure NxO (P : Program) (w : World) (o : Obj) (L : List Int) (es : Array (Int × Value)) (ep : Nat) (t : SetTable) : Prop where
  ex : o.ExactSet
  dt : o.data = .set es ep t
  el : ∀ e ∈ es.toList, IsNx P w e
  ks : (es.toList.map keyN).Perm L
  nd : L.Nodup
  fw : es.size < scanBound
  ft : t.fits es.size = true
  ri : Ris t.place.toList
  ld : w.params.followText "set-order" = true ∨ t.led = true
def NxS (P : Program) (w : World) (h : Heap) (a : Addr) (L : List Int) : Prop := ∃ o es ep t, h.get? a = some o ∧ NxO P w o L es ep t
theorem NxS.keep {h h' : Heap} {a : Addr} {L : List Int} (R : NxS P w h a L) (k : ∀ o, h.get? a = some o → h'.get? a = some o) : NxS P w h' a L :=
  match R with
  | ⟨o, es, ep, t, q, T⟩ => ⟨o, es, ep, t, k o q, T⟩
theorem NxO.len {o : Obj} {L : List Int} {es : Array (Int × Value)} {ep : Nat} {t : SetTable} (T : NxO P w o L es ep t) : es.size = L.length := by
  rw [← T.ks.length_eq, List.length_map, Array.length_toList]
theorem stpN_nodup {L : List Int} (h : L.Nodup) (k : Int) : (stpN L k).Nodup := by
  unfold stpN
  split
  · exact h
  · rename_i hk
    rw [List.nodup_append]
    exact ⟨h, by simp, fun x hx y hy e => hk (by rw [← List.mem_singleton.mp hy, ← e]; exact hx)⟩
section
variable {A : Around} {E : Value → Shared → Prop} {s : Shared} {a : Addr} {L : List Int}
theorem put_hereN {h : Heap} {o : Obj} {es es' : Array (Int × Value)} {ep : Nat} {t t' : SetTable} (q : h.get? a = some o) (d : o.data = .set es ep t) :
    (h.update a (Obj.putSet es' t')).get? a = some { o with data := .set es' (ep + 1) t' } := by
  rw [← putSet_of es' t' d]
  exact Heap.get?_update_self _ q (by rw [putSet_of es' t' d]; rfl)
/-- behind the laying of a new one: the table may be laid anew -/
theorem nx_setile {f : Bool → Sem Unit} (hf : ∀ (b : Bool) (s1 : Shared) (Y : Unit → Shared → Prop), Y () s1 → wpAny (model P w) A (f b) Y E s1) {o : Obj} {es : Array (Int × Value)} {ep : Nat} {t : SetTable} (q : s.heap.get? a = some o) (d : o.data = .set es ep t)
    {M : List Int} {e1 : Array (Int × Value)} {t1 : SetTable} (T : ∀ o' : Obj, o'.cls = o.cls → o'.dict = o.dict → o'.slots = o.slots → ∀ n, o'.data = .set e1 n t1 → NxO P w o' M e1 n t1) {dm : Bool} {Y : Option Bool → Shared → Prop}
    (hY : ∀ h', Heap.SameBut a s.heap h' → NxS P w h' a M → Y (some true) { s with heap := h' }) :
    wpAny (model P w) A (do
        storeSet a e1 t1
        if (!dm && t1.tooFull) = true then (do
            f (relayAll t1 e1 (SetTable.grown e1.size)).2.2
            storeSet a (relayAll t1 e1 (SetTable.grown e1.size)).1 (relayAll t1 e1 (SetTable.grown e1.size)).2.1
            pure (some true))
        else pure (some true)) Y E s := by
  have T1 := T { o with data := .set e1 (ep + 1) t1 } rfl rfl rfl (ep + 1) rfl
  have q1 := put_hereN (es' := e1) (t' := t1) q d
  have b1 := Heap.SameBut.update s.heap a (Obj.putSet e1 t1)
  refine wpAny_bind (wpAny_storeSet_of q d ?_ (fits_of_scanBound T1.fw))
  split
  · have r1 := relayAll_perm t1 e1 (SetTable.grown e1.size)
    have r2 := relayAll_fits t1 e1 (SetTable.grown e1.size)
    have r3 := relayAll_ris t1 e1 (SetTable.grown e1.size)
    have r4 := relayAll_led t1 e1 (SetTable.grown e1.size)
    revert r1 r2 r3 r4
    generalize relayAll t1 e1 (SetTable.grown e1.size) = Z
    obtain ⟨e2, t2, g2⟩ := Z
    intro r1 r2 r3 r4
    dsimp only at r1 r2 r3 r4 ⊢
    have sz : e2.size = e1.size := by rw [← Array.length_toList, r1.length_eq, Array.length_toList]
    have fw2 : e2.size < scanBound := sz.symm ▸ T1.fw
    refine wpAny_bind (hf _ _ _ (wpAny_bind (wpAny_storeSet_of q1 rfl ?_ (fits_of_scanBound fw2))))
    refine wpAny_pure (hY _ (b1.trans (Heap.SameBut.update _ a _)) ⟨_, e2, ep + 1 + 1, t2, put_hereN q1 rfl, ?_⟩)
    exact ⟨T1.ex, rfl, fun e he => T1.el e (r1.mem_iff.mp he), (r1.map keyN).trans T1.ks, T1.nd, fw2, r2, r3, T1.ld.imp id fun z => r4.trans z⟩
  · exact wpAny_pure (hY _ b1 ⟨_, e1, _, t1, q1, T1⟩)
theorem NxS.hadd {k : Int} {u : Tok} {Q : Bool → Shared → Prop} (R : NxS P w s.heap a L) (room : L.length + 1 < scanBound)
    (hQ : ∀ b h', Heap.SameBut a s.heap h' → NxS P w h' a (stpN L k) → Q b { s with heap := h' }) :
    wpAny (model P w) A (setAddHashed a (.int k u) ((PySem.intKind P w).hash k)) Q E s := by
  obtain ⟨o, es, ep, t, q, T⟩ := R
  have el := nxElems T.el
  have mine : (PySem.intKind P w).is k (.int k u) = true := intKind_is P w k u
  unfold setAddHashed setAddHashedIn
  refine wpAny_holding (wpAny_bind (wpAny_setState_of q T.dt T.ft ?_))
  dsimp only
  rw [byScan_of (x := .int k u) rfl T.fw el, if_pos rfl]
  unfold setAddByScan
  refine wpAny_bind (wpAny_bind (wpAny_rule (wpAny_bind (wpAny_setScan_of mine q T.dt T.ft el ?_))))
  cases fd : List.findIdx? (fun e => (PySem.intKind P w).is k e.2) es.toList with
  | some j =>
    obtain ⟨hj, pj, _⟩ := List.findIdx?_eq_some_iff_getElem.mp fd
    have inL : k ∈ L := T.ks.mem_iff.mp (List.mem_map.mpr ⟨_, List.getElem_mem hj, ((T.el _ (List.getElem_mem hj)).key k).mp pj⟩)
    refine wpAny_pure (wpAny_pure (hQ _ s.heap (Heap.SameBut.refl a s.heap) ⟨o, es, ep, t, q, ?_⟩))
    unfold stpN
    rw [if_pos inL]
    exact T
  | none =>
    have outL : k ∉ L := fun z => by
      obtain ⟨e, he, hk⟩ := List.mem_map.mp (T.ks.mem_iff.mpr z)
      have c := List.findIdx?_eq_none_iff.mp fd e he
      rw [((T.el e he).key k).mpr hk] at c
      cases c
    have quiet : ∀ (b : Bool) (s1 : Shared) (Y : Unit → Shared → Prop), Y () s1 → wpAny (model P w) A (match b with | true => rule "set.scan.the-table-gave-way" | false => pure ()) Y E s1 :=
      fun b s1 Y y => by cases b <;> first | exact wpAny_pure y | exact wpAny_rule y
    have l1 := layNew_perm t es ((PySem.intKind P w).hash k) (.int k u)
    have l2 := layNew_fits t es ((PySem.intKind P w).hash k) (.int k u)
    have l3 := layNew_ris t es ((PySem.intKind P w).hash k) (.int k u) T.ri
    have l4 := layNew_led t es ((PySem.intKind P w).hash k) (.int k u)
    dsimp only
    revert l1 l2 l3 l4
    generalize layNew t es ((PySem.intKind P w).hash k) (.int k u) = Z
    obtain ⟨e1, t1, dm, gv⟩ := Z
    intro l1 l2 l3 l4
    dsimp only at l1 l2 l3 l4 ⊢
    rw [Array.toList_push] at l1
    have ks1 : (e1.toList.map keyN).Perm (L ++ [k]) := by
      have z := l1.map keyN
      rw [List.map_append] at z
      exact z.trans (T.ks.append_right _)
    have e1k : stpN L k = L ++ [k] := by unfold stpN; rw [if_neg outL]
    have nd1 : (L ++ [k]).Nodup := e1k ▸ stpN_nodup T.nd k
    have el1 : ∀ e ∈ e1.toList, IsNx P w e := fun e he => by
      rcases List.mem_append.mp (l1.mem_iff.mp he) with z | z
      · exact T.el e z
      · rw [List.mem_singleton.mp z]; exact ⟨k, u, rfl, rfl⟩
    have fw1 : e1.size < scanBound := by
      have z := ks1.length_eq
      rw [List.length_map, Array.length_toList, List.length_append] at z
      rw [z]; exact room
    have made : ∀ t2 : SetTable, t2.fits e1.size = true → Ris t2.place.toList → (w.params.followText "set-order" = true ∨ t2.led = true) →
        ∀ o' : Obj, o'.cls = o.cls → o'.dict = o.dict → o'.slots = o.slots → ∀ n, o'.data = .set e1 n t2 → NxO P w o' (L ++ [k]) e1 n t2 := fun t2 a1 a2 a3 o' c1 c2 c3 n c4 =>
      ⟨by obtain ⟨x1, x2, x3⟩ := T.ex; exact ⟨c1.trans x1, c2.trans x2, c3.trans x3⟩, c4, el1, ks1, nd1, fw1, a1, a2, a3⟩
    have ld1 : w.params.followText "set-order" = true ∨ t1.led = true := T.ld.imp id fun z => l4.trans z
    refine wpAny_bind (quiet _ _ _ ?_)
    split
    · refine wpAny_bind (m := hashByValue 8 (Value.int k u)) ?_
      rw [hashByValue_scannable 8 (x := .int k u) rfl]
      refine wpAny_pure (nx_setile (fun b s1 Y y => quiet b s1 Y y) q T.dt (M := L ++ [k]) ?_ fun h' sb r => wpAny_pure (hQ _ h' sb (e1k.symm ▸ r)))
      first
        | exact made _ (SetTable.fits_plain_off l2) l3 ld1
        | exact made _ l2 l3 ld1
        | (split <;> first | exact made _ (SetTable.fits_plain_off l2) l3 ld1 | exact made _ l2 l3 ld1)
    · refine wpAny_bind (wpAny_pure ?_)
      rw [if_pos rfl]
      exact nx_setile (fun b s1 Y y => quiet b s1 Y y) q T.dt (M := L ++ [k]) (made _ l2 l3 ld1) fun h' sb r => wpAny_pure (hQ _ h' sb (e1k.symm ▸ r))
end
end
def ile (a b : Int) : Bool := decide (a ≤ b)
def sorN (L : List Int) : List Int := L.mergeSort ile
theorem sorN_perm {L M : List Int} (h : L.Perm M) : sorN L = sorN M :=
  List.Perm.eq_of_pairwise (le := fun a b => ile a b = true) (fun _ _ _ _ x y => by unfold ile at x y; simp only [decide_eq_true_eq] at x y; omega) (List.pairwise_mergeSort (by unfold ile; intro a b c x y; simp only [decide_eq_true_eq] at x y ⊢; omega) (by unfold ile; intro a b; simp only [Bool.or_eq_true, decide_eq_true_eq]; omega) L) (List.pairwise_mergeSort (by unfold ile; intro a b c x y; simp only [decide_eq_true_eq] at x y ⊢; omega) (by unfold ile; intro a b; simp only [Bool.or_eq_true, decide_eq_true_eq]; omega) M)
    ((List.mergeSort_perm L ile).trans (h.trans (List.mergeSort_perm M ile).symm))
section
variable {P : Program} {w : World} {A : Around} {E : Value → Shared → Prop} {s : Shared} {a : Addr} {L : List Int}
theorem NxS.type {h : Heap} (R : NxS P w h a L) : ∃ o, h.get? a = some o ∧ o.cls = .type "set" :=
  match R with
  | ⟨o, _, _, _, q, T⟩ => ⟨o, q, T.ex.1⟩
theorem each_mem_num : ∀ {us : List Value}, (∀ u ∈ us, ∃ k t, u = Value.int k t) → ∃ ks, PySem.W.EachIs (fun u (k : Int) => ∃ t, u = Value.int k t) us ks ∧ ks = us.map fun u => keyN (0, u)
  | [], _ => ⟨[], .nil, rfl⟩
  | u :: r, g => by
    obtain ⟨k, t, rfl⟩ := g u List.mem_cons_self
    obtain ⟨ks, h1, h2⟩ := each_mem_num fun v hv => g v (List.mem_cons_of_mem _ hv)
    exact ⟨k :: ks, .cons ⟨t, rfl⟩ h1, by rw [h2]; rfl⟩
/-- sorted(a set of texts) -/
theorem NxS.sorted {Q : Value → Shared → Prop} (R : NxS P w s.heap a L) (hh : A.handled = none) (hu : A.units + 8 < cLine)
    (hQ : ∀ s' p (out : List Value) (c : Nat), (∀ b o, s.heap.get? b = some o → s'.heap.get? b = some o) → s'.gens = s.gens → s'.os = s.os → s.heap.objs.size ≤ p →
      s'.heap.get? p = some (seqObj "list" out.toArray c) → PySem.W.EachIs (fun u (k : Int) => ∃ t, u = Value.int k t) out (sorN L) → Q (.ref p) s') :
    wpAny (model P w) A (call (.builtin "sorted") [.ref a]) Q E s := by
  obtain ⟨o, es, ep, t, q, T⟩ := R
  have few : L.length < scanBound := T.len ▸ T.fw
  refine Calls.call_function_entry kind_sorted plain_sorted entry_sorted (args_sorted1 _) ?_
  unfold Builtin.«sorted»
  refine wpAny_bind (m := checkCount "sorted" 1 1 _) (wpAny_pure ?_)
  refine wpAny_bind (collect_set (A := A.in1) hh ⟨o, q, T.ex.1, T.dt⟩ T.ft T.fw T.ri T.ld fun s1 vs k1 z1 g1 o1 pm => ?_)
  obtain ⟨ks, ek, eks⟩ := each_mem_num (us := vs) fun u hv => by
    obtain ⟨e, he, rfl⟩ := List.mem_map.mp (pm.mem_iff.mp hv)
    obtain ⟨k, t, h1, _⟩ := T.el e he
    exact ⟨k, t, h1⟩
  have kp : ks.Perm L := by
    rw [eks]
    refine (pm.map _).trans ?_
    rw [List.map_map]
    exact T.ks
  have vl : vs.length = L.length := by rw [pm.length_eq, List.length_map, Array.length_toList, T.len]
  have line : scanBound ≤ sizeLine := by rw [sizeLine_eq]; decide
  refine wpAny_bind (wpAny_newList ?_ (by rw [vl]; omega))
  have at1 : (s1.heap.push (seqObj "list" vs.toArray 0)).get? s1.heap.objs.size = some (seqObj "list" vs.toArray 0) := Heap.get?_push_size _ rfl
  have er : PySem.W.EachIs (fun v (b : Int) => ∃ as, Reads (s1.heap.push (seqObj "list" vs.toArray 0)) v (PyData.int b) as ∧ s1.heap.objs.size ∉ as) vs ks := ek.mono fun u k ⟨t, e⟩ => ⟨[], by rw [e]; exact .int _ _, by simp⟩
  have ke : ks.map PyData.int = L.map PyData.int ∨ True := .inr trivial
  have alk : PySem.W.AllAlike (ks.map PyData.int) := fun d hd d' hd' => by
    obtain ⟨x, _, rfl⟩ := List.mem_map.mp hd
    obtain ⟨y, _, rfl⟩ := List.mem_map.mp hd'
    rfl
  have srt : PySem.W.Sortable (ks.map PyData.int) := .inr fun d hd => by
    obtain ⟨x, _, rfl⟩ := List.mem_map.mp hd
    refine ⟨?_, ?_⟩ <;> intros <;> simp
  refine wpAny_bind (wpAny_holding ?_)
  refine PySem.W.list_sort_data (s := { s1 with heap := s1.heap.push (seqObj "list" vs.toArray 0) }) (bs := ks) (enc := PyData.int) (R := fun u (k : Int) => ∃ t, u = Value.int k t) at1 ek er alk srt ?_ (fun b _ => ?_) fun out ol eo => ?_
  · rw [kp.length_eq]; omega
  · have dp : (PyData.int b).depth ≤ 1 := by first | exact Nat.le_refl _ | exact Nat.zero_le _ | (unfold PyData.depth; omega)
    show A.in1.units + 1 + (PyData.int b).depth < cLine
    have : A.in1.units ≤ A.units + 4 := by first | exact Nat.le_add_right (A.units + 1) 3 | (simp [Around.in1]; omega)
    omega
  · obtain ⟨c, hc⟩ := sortedHeap_at (vs := vs) (out := out.toArray) at1
    have se : ks.mergeSort (PySem.W.dataLe false PyData.int) = sorN L := by
      have z : PySem.W.dataLe false PyData.int = ile := PySem.W.dataLe_int (fun b => b)
      rw [z]
      exact sorN_perm kp
    rw [se] at eo
    refine wpAny_pure ⟨_, rfl, ?_⟩
    refine hQ { s1 with heap := sortedHeap (s1.heap.push (seqObj "list" vs.toArray 0)) s1.heap.objs.size vs out.toArray } s1.heap.objs.size out c (fun b u e => ?_) g1 o1 z1 hc eo
    have e1 := k1 b u e
    have lt := Heap.lt_size e1
    refine (sortedHeap_old (Nat.ne_of_lt lt) ?_).trans (Heap.get?_push_of_some _ e1)
    rw [Heap.size_push]
    exact Nat.lt_succ_of_lt lt
end
section
variable {prog : Program} {w : World} {A : Around} {R : Result → Shared → Prop} {I : Addr} {fp wr : List Addr} {G : Array GenState → Array GenState → Prop} {n : Nat} {P : Nat → Value → Prop} {St : Nat → Shared → Prop}
end
section
variable {prog : Program} {w : World} {A : Around} {E : Value → Shared → Prop} {s : Shared}
abbrev emptySN (w : World) : Obj := newSet (!w.params.followText "set-order")
end
section
variable {X : Cx} {C : CC} {W : WX} {a : Expr} {ma : E D} {p p2 q pos : Pos} {k : Nat}
def fSortSetN : D → E (List D)
  | .lst ds => fun ρ Q _ z => ∃ ys, intsOf ds = some ys ∧ ys.length < 4000 ∧ Q ((sorN (uniqN ys)).map D.int) ρ z
  | _ => eStuck
@[simp] theorem fSortSetN_a (ds : List D) (ρ : Rho) (Q : List D → Rho → Zs → Prop) (X : Er → Rho → Zs → Prop) (z : Zs) : fSortSetN (.lst ds) ρ Q X z = ∃ ys, intsOf ds = some ys ∧ ys.length < 4000 ∧ Q ((sorN (uniqN ys)).map D.int) ρ z := propext Iff.rfl
end
end DL

namespace DL
open PySem PySem.Spec PyProof.Rows L2
/-! ## name = [.. for ..], the list will change -/
section
variable {X : Cx} {C : CC} {W : WX} {elt tg iter : Expr} {ifs : List Expr} {pos : Pos} {k : Nat} {scope : Scope} {own : List (Str × Nat)}
end
end DL

namespace DL
open PySem PySem.Spec PyProof.Rows L2
/-! ## name.remove(x), x a thing in the list -/
def rRemD (K : PySem.W.Frag) : V → List V → Hp → VK → Prop := fun x vs H Q => ∃ (l : Addr) (xs : List V) (y : V) (d : PyData) (ds : List PyData) (j : Nat), x = V.ref l ∧ vs = [y] ∧ H l = some (.lst xs) ∧ DpAll K H xs ds ∧ Dp K H y d ∧
  PyData.plainAll ds = true ∧ d.plain = true ∧ d.depth ≤ 60 ∧ (ds.findIdx? fun z => PyData.eqv z d) = some j ∧ Q .non (upd H l (.lst (xs.take j ++ xs.drop (j + 1))))
def dRm (ds : List D) (y : D) (Q : List D → Prop) : Prop := (isPyL ds = true ∧ y.isPy = true ∧ PyData.plainAll (pyL ds) = true ∧ y.py.plain = true ∧ y.py.depth ≤ 60) ∧ ∃ j, ((pyL ds).findIdx? fun z => PyData.eqv z y.py) = some j ∧ Q (ds.take j ++ ds.drop (j + 1))
def sRem (i : Nat) (ms : E (List D)) : E Fl := fun ρ Q X z => match ρ[i]? with
  | some (.own _) => ms ρ (fun as ρ' z' => match as, ρ'[i]? with
    | [y], some (.own ds) => dRm ds y fun es => Q .nx (ρ'.set i (.own es)) z'
    | _, _ => False) X z
  | _ => False
section
variable {X : Cx} {C : CC} {W : WX} {a : Expr} {ms : E (List D)} {x : Str} {p p1 p2 p3 : Pos} {k : Nat}
end
@[simp] theorem sRem_a (i : Nat) (ms : E (List D)) (t : Sl) (ρ : Rho) (Qf : Fl → Rho → Zs → Prop) (X : Er → Rho → Zs → Prop) (z : Zs) : sRem i ms (t :: ρ) Qf X z = (match (t :: ρ)[i]? with
  | some (.own _) => ms (t :: ρ) (fun as ρ' z' => match as, ρ'[i]? with
    | [y], some (.own ds) => dRm ds y fun es => Qf .nx (ρ'.set i (.own es)) z'
    | _, _ => False) X z
  | _ => False) := propext Iff.rfl
end DL

namespace DL
open PySem PySem.Spec PyProof.Rows L2
/-! ## tuple * int; d.get(k, x) of a dict that is read -/
def dRepT : P2
  | .tup ds, .int k, Q => (ds ≠ [] ∧ 2 ≤ k ∧ k ≤ 1000 ∧ ds.length ≤ 1000) ∧ Q (.tup (List.replicate k.toNat ds).flatten)
  | _, _, _ => False
section
variable {X : Cx} {C : CC} {W : WX} {k : Nat} {p1 p2 : Pos} {a b c : Expr} {ma mb mc : E D}
def fGet2 (mb mc : E D) : D → E D
  | .dic ks ds => fun ρ Q X z => mb ρ (fun y ρ1 z1 => mc ρ1 (fun w ρ2 z2 => ∃ k, keyD y = some k ∧ Q ((dlk ks ds k).getD w) ρ2 z2) X z1) X z
  | _ => eStuck
end
section
variable {a b c : D} {ds : List D} {i : Int} {ks : List Key} {ρ : Rho} {Q : D → Rho → Zs → Prop} {X : Er → Rho → Zs → Prop} {z : Zs} {mb mc : E D} {R : D → Prop}
@[simp] theorem dRepT_1 : dRepT (.tup ds) (.int i) R = ((ds ≠ [] ∧ 2 ≤ i ∧ i ≤ 1000 ∧ ds.length ≤ 1000) ∧ R (.tup (List.replicate i.toNat ds).flatten)) := propext Iff.rfl
@[simp] theorem fGet2_1 : fGet2 mb mc (.dic ks ds) ρ Q X z = mb ρ (fun y ρ1 z1 => mc ρ1 (fun w ρ2 z2 => ∃ k, keyD y = some k ∧ Q ((dlk ks ds k).getD w) ρ2 z2) X z1) X z := propext Iff.rfl
end
end DL

namespace LW
open PySem PySem.Spec PyProof.Rows L2 DL
def top (i : Nat) : Stmt := PySem.Challenge.pw_dividersteps_k88_whole_same_counts_side.main.body.getD i (.Pass ⟨0, 0, 0, 0⟩)
def d0 : He.DefD := ⟨("_wall", none), "_wall", "_wall", defArgs (top 0), defBody (top 0), defScope (top 0), [], []⟩
def d2_0 : He.DefD := ⟨("DividerError", some "__init__"), "__init__", "DividerError.__init__", defArgs (inClass (top 2) 0), defBody (inClass (top 2) 0), defScope (inClass (top 2) 0), [], []⟩
def d3_0 : He.DefD := ⟨("InvalidDeed", some "__init__"), "__init__", "InvalidDeed.__init__", defArgs (inClass (top 3) 0), defBody (inClass (top 3) 0), defScope (inClass (top 3) 0), [], []⟩
def d4_0 : He.DefD := ⟨("InvalidName", some "__init__"), "__init__", "InvalidName.__init__", defArgs (inClass (top 4) 0), defBody (inClass (top 4) 0), defScope (inClass (top 4) 0), [], []⟩
def d5_0 : He.DefD := ⟨("InvalidFraction", some "__init__"), "__init__", "InvalidFraction.__init__", defArgs (inClass (top 5) 0), defBody (inClass (top 5) 0), defScope (inClass (top 5) 0), [], []⟩
def d6_0 : He.DefD := ⟨("UnknownDeed", some "__init__"), "__init__", "UnknownDeed.__init__", defArgs (inClass (top 6) 0), defBody (inClass (top 6) 0), defScope (inClass (top 6) 0), [], []⟩
def d8 : He.DefD := ⟨("common_divisor", none), "common_divisor", "common_divisor", defArgs (top 8), defBody (top 8), defScope (top 8), [], []⟩
def d9 : He.DefD := ⟨("is_fraction", none), "is_fraction", "is_fraction", defArgs (top 9), defBody (top 9), defScope (top 9), [], []⟩
def d10 : He.DefD := ⟨("is_opening", none), "is_opening", "is_opening", defArgs (top 10), defBody (top 10), defScope (top 10), [], []⟩
def d11 : He.DefD := ⟨("fraction", none), "fraction", "fraction", defArgs (top 11), defBody (top 11), defScope (top 11), [], []⟩
def d16 : He.DefD := ⟨("is_name", none), "is_name", "is_name", defArgs (top 16), defBody (top 16), defScope (top 16), [], []⟩
def d17 : He.DefD := ⟨("deed_names", none), "deed_names", "deed_names", defArgs (top 17), defBody (top 17), defScope (top 17), [], []⟩
def d18 : He.DefD := ⟨("checked_deed", none), "checked_deed", "checked_deed", defArgs (top 18), defBody (top 18), defScope (top 18), [], []⟩
def d19 : He.DefD := ⟨("kept_deeds", none), "kept_deeds", "kept_deeds", defArgs (top 19), defBody (top 19), defScope (top 19), [], []⟩
def d20_0 : He.DefD := ⟨("Script", some "__init__"), "__init__", "Script.__init__", defArgs (inClass (top 20) 0), defBody (inClass (top 20) 0), defScope (inClass (top 20) 0), [], []⟩
def d20_2 : He.DefD := ⟨("Script", some "names"), "names", "Script.names", defArgs (inClass (top 20) 2), defBody (inClass (top 20) 2), defScope (inClass (top 20) 2), [], []⟩
def d20_3 : He.DefD := ⟨("Script", some "check_index"), "check_index", "Script.check_index", defArgs (inClass (top 20) 3), defBody (inClass (top 20) 3), defScope (inClass (top 20) 3), [], []⟩
def d20_4 : He.DefD := ⟨("Script", some "without"), "without", "Script.without", defArgs (inClass (top 20) 4), defBody (inClass (top 20) 4), defScope (inClass (top 20) 4), [], []⟩
def d20_5 : He.DefD := ⟨("Script", some "exchanged"), "exchanged", "Script.exchanged", defArgs (inClass (top 20) 5), defBody (inClass (top 20) 5), defScope (inClass (top 20) 5), [], []⟩
def d20_6 : He.DefD := ⟨("Script", some "joined"), "joined", "Script.joined", defArgs (inClass (top 20) 6), defBody (inClass (top 20) 6), defScope (inClass (top 20) 6), [], []⟩
def d20_7 : He.DefD := ⟨("Script", some "__getitem__"), "__getitem__", "Script.__getitem__", defArgs (inClass (top 20) 7), defBody (inClass (top 20) 7), defScope (inClass (top 20) 7), [], []⟩
def d20_8 : He.DefD := ⟨("Script", some "__iter__"), "__iter__", "Script.__iter__", defArgs (inClass (top 20) 8), defBody (inClass (top 20) 8), defScope (inClass (top 20) 8), [], []⟩
def d20_9 : He.DefD := ⟨("Script", some "__len__"), "__len__", "Script.__len__", defArgs (inClass (top 20) 9), defBody (inClass (top 20) 9), defScope (inClass (top 20) 9), [], []⟩
def d20_10 : He.DefD := ⟨("Script", some "__eq__"), "__eq__", "Script.__eq__", defArgs (inClass (top 20) 10), defBody (inClass (top 20) 10), defScope (inClass (top 20) 10), [], []⟩
def d24 : He.DefD := ⟨("checked_opening", none), "checked_opening", "checked_opening", defArgs (top 24), defBody (top 24), defScope (top 24), [], []⟩
def d25 : He.DefD := ⟨("state_begun", none), "state_begun", "state_begun", defArgs (top 25), defBody (top 25), defScope (top 25), [], []⟩
def d26 : He.DefD := ⟨("state_gap", none), "state_gap", "state_gap", defArgs (top 26), defBody (top 26), defScope (top 26), [], []⟩
def d27 : He.DefD := ⟨("state_fits", none), "state_fits", "state_fits", defArgs (top 27), defBody (top 27), defScope (top 27), [], []⟩
def d28 : He.DefD := ⟨("state_moved", none), "state_moved", "state_moved", defArgs (top 28), defBody (top 28), defScope (top 28), [], []⟩
def d29 : He.DefD := ⟨("state_set", none), "state_set", "state_set", defArgs (top 29), defBody (top 29), defScope (top 29), [], []⟩
def d30 : He.DefD := ⟨("place_of", none), "place_of", "place_of", defArgs (top 30), defBody (top 30), defScope (top 30), [], []⟩
def d31 : He.DefD := ⟨("distance", none), "distance", "distance", defArgs (top 31), defBody (top 31), defScope (top 31), [], []⟩
def d32 : He.DefD := ⟨("state_spanned", none), "state_spanned", "state_spanned", defArgs (top 32), defBody (top 32), defScope (top 32), [], []⟩
def d33 : He.DefD := ⟨("state_marked", none), "state_marked", "state_marked", defArgs (top 33), defBody (top 33), defScope (top 33), [], []⟩
def d34 : He.DefD := ⟨("act_on_marks", none), "act_on_marks", "act_on_marks", defArgs (top 34), defBody (top 34), defScope (top 34), [], []⟩
def d35 : He.DefD := ⟨("act_on", none), "act_on", "act_on", defArgs (top 35), defBody (top 35), defScope (top 35), [], []⟩
def d36 : He.DefD := ⟨("state_end", none), "state_end", "state_end", defArgs (top 36), defBody (top 36), defScope (top 36), [], []⟩
def d37 : He.DefD := ⟨("run", none), "run", "run", defArgs (top 37), defBody (top 37), defScope (top 37), [], []⟩
def d39 : He.DefD := ⟨("_law_purse", none), "_law_purse", "_law_purse", defArgs (top 39), defBody (top 39), defScope (top 39), [], []⟩
def d40 : He.DefD := ⟨("_law_coin", none), "_law_coin", "_law_coin", defArgs (top 40), defBody (top 40), defScope (top 40), [], []⟩
def d41 : He.DefD := ⟨("_law_words", none), "_law_words", "_law_words", defArgs (top 41), defBody (top 41), defScope (top 41), [], []⟩
def d42 : He.DefD := ⟨("_law_ds_ratio", none), "_law_ds_ratio", "_law_ds_ratio", defArgs (top 42), defBody (top 42), defScope (top 42), [], []⟩
def d43 : He.DefD := ⟨("_law_ds_act", none), "_law_ds_act", "_law_ds_act", defArgs (top 43), defBody (top 43), defScope (top 43), [], []⟩
def d44 : He.DefD := ⟨("_law_ds_begun", none), "_law_ds_begun", "_law_ds_begun", defArgs (top 44), defBody (top 44), defScope (top 44), [], []⟩
def d45 : He.DefD := ⟨("_law_ds_room", none), "_law_ds_room", "_law_ds_room", defArgs (top 45), defBody (top 45), defScope (top 45), [], []⟩
def d46 : He.DefD := ⟨("_law_ds_why", none), "_law_ds_why", "_law_ds_why", defArgs (top 46), defBody (top 46), defScope (top 46), [], []⟩
def d47 : He.DefD := ⟨("_law_ds_done", none), "_law_ds_done", "_law_ds_done", defArgs (top 47), defBody (top 47), defScope (top 47), [], []⟩
def d48 : He.DefD := ⟨("_law_ds_where", none), "_law_ds_where", "_law_ds_where", defArgs (top 48), defBody (top 48), defScope (top 48), [], []⟩
def d49 : He.DefD := ⟨("_law_ds_values", none), "_law_ds_values", "_law_ds_values", defArgs (top 49), defBody (top 49), defScope (top 49), [], []⟩
def d50 : He.DefD := ⟨("_law_ds_straight", none), "_law_ds_straight", "_law_ds_straight", defArgs (top 50), defBody (top 50), defScope (top 50), [], []⟩
def d51 : He.DefD := ⟨("_law_ds_openings", none), "_law_ds_openings", "_law_ds_openings", defArgs (top 51), defBody (top 51), defScope (top 51), [], []⟩
def d52 : He.DefD := ⟨("_law_right", none), "_law_right", "_law_right", defArgs (top 52), defBody (top 52), defScope (top 52), [], []⟩
def d53 : He.DefD := ⟨("law", none), "law", "law", defArgs (top 53), defBody (top 53), defScope (top 53), [], []⟩
def d20_1 : He.DefD := ⟨("Script", some "deeds"), "deeds", "Script.deeds", defArgs (inClass (top 20) 1), defBody (inClass (top 20) 1), defScope (inClass (top 20) 1), [], []⟩
def gsL : List He.DefD := [d20_1]
def tb_DEED_THINGS : List (Str × D) := [("left", (D.tup [(D.int 0), (D.int 0)])), ("right", (D.tup [(D.int 0), (D.int 0)])), ("steps", (D.tup [(D.int 1), (D.int 0)])), ("fill", (D.tup [(D.int 1), (D.int 0)])), ("gap", (D.tup [(D.int 0), (D.int 0)])), ("span", (D.tup [(D.int 0), (D.int 2)])), ("mark", (D.tup [(D.int 0), (D.int 1)])), ("go", (D.tup [(D.int 0), (D.int 1)])), ("turn", (D.tup [(D.int 0), (D.int 0)])), ("rest", (D.tup [(D.int 0), (D.int 0)]))]
def tsL : List He.Tab := [(fun K => He.ga K "DEED_THINGS", ["left", "right", "steps", "fill", "gap", "span", "mark", "go", "turn", "rest"])]
def fnL : List He.DefD := ([d0, d2_0, d3_0, d4_0, d5_0, d6_0, d8, d9, d10, d11, d16, d17, d18, d19, d20_0, d20_2, d20_3, d20_4, d20_5, d20_6] : List He.DefD) ++ ([d20_7, d20_8, d20_9, d20_10, d24, d25, d26, d27, d28, d29, d30, d31, d32, d33, d34, d35, d36, d37, d39, d40] : List He.DefD) ++ ([d41, d42, d43, d44, d45, d46, d47, d48, d49, d50, d51, d52, d53] : List He.DefD)
def faL : List He.Fa := ([.glo "_wall", .glo "DividerError", .glo "InvalidDeed", .glo "InvalidName", .glo "InvalidFraction", .glo "UnknownDeed", .glo "common_divisor", .glo "is_fraction", .glo "is_opening", .glo "fraction", .str "LETTERS" "abcdefghijklmnopqrstuvwxyz", .int "LONGEST_NAME" 8, .glo "DEED_THINGS", .glo "is_name", .glo "deed_names", .glo "checked_deed", .glo "kept_deeds", .glo "Script", .glo "LEFT_END", .glo "RIGHT_END"] : List He.Fa) ++ ([.glo "checked_opening", .glo "state_begun", .glo "state_gap", .glo "state_fits", .glo "state_moved", .glo "state_set", .glo "place_of", .glo "distance", .glo "state_spanned", .glo "state_marked", .glo "act_on_marks", .glo "act_on", .glo "state_end", .glo "run", .glo "_law_purse", .glo "_law_coin", .glo "_law_words", .glo "_law_ds_ratio", .glo "_law_ds_act", .glo "_law_ds_begun"] : List He.Fa) ++ ([.glo "_law_ds_room", .glo "_law_ds_why", .glo "_law_ds_done", .glo "_law_ds_where", .glo "_law_ds_values", .glo "_law_ds_straight", .glo "_law_ds_openings", .glo "_law_right", .glo "law", .free "ValueError", .free "abs", .free "all", .free "enumerate", .free "int", .free "isinstance", .free "len", .free "list", .free "max", .free "min", .free "range"] : List He.Fa) ++ ([.free "repr", .free "set", .free "sorted", .free "tuple", .cls "Script", .mkr "Script", .noat "Script" "kept", .meth "Script" "__init__"] : List He.Fa)
def exL : List (PySem.W.Frag → Bool) := ([fun K => ecB K (He.ga K "DividerError") (He.fAd K ("DividerError", some "__init__")), fun K => ecB K (He.ga K "InvalidDeed") (He.fAd K ("InvalidDeed", some "__init__")), fun K => ecB K (He.ga K "InvalidName") (He.fAd K ("InvalidName", some "__init__")), fun K => ecB K (He.ga K "InvalidFraction") (He.fAd K ("InvalidFraction", some "__init__")), fun K => ecB K (He.ga K "UnknownDeed") (He.fAd K ("UnknownDeed", some "__init__")), fun K => propB K "Script" "deeds", fun K => ktabB K (He.ga K "DEED_THINGS") tb_DEED_THINGS, fun K => gtupB K "LEFT_END" (D.tup [(D.int 0), (D.int 1)])] : List (PySem.W.Frag → Bool)) ++ ([fun K => gtupB K "RIGHT_END" (D.tup [(D.int 1), (D.int 1)])] : List (PySem.W.Frag → Bool))
def exB (K : PySem.W.Frag) : Bool := exL.all fun f => f K
abbrev RowL : PySem.W.OpenRow := PySem.W.OpenLaw.row PySem.Challenge.rw_dividersteps_k88_whole_same_counts_side
abbrev hkL : PySem.W.Hook := hookF 6 faL fnL tsL gsL exB
def obL (s : PySem.W.SharedT) : AlF := obsF 6 faL fnL tsL gsL exB (HandSHeadRun.getT s)
theorem obL_eq (s : PySem.W.SharedT) : obL s = hkL.obs s.abs := obsF_eq (HandSHeadRun.getT_eq s)
def looseL : List PySem.Str := (["_wall", "DividerError", "InvalidDeed", "InvalidName", "InvalidFraction", "UnknownDeed", "common_divisor", "is_fraction", "is_opening", "fraction", "LETTERS", "LONGEST_NAME", "DEED_THINGS", "is_name", "deed_names", "checked_deed", "kept_deeds", "Script", "LEFT_END", "RIGHT_END"] : List PySem.Str) ++ (["checked_opening", "state_begun", "state_gap", "state_fits", "state_moved", "state_set", "place_of", "distance", "state_spanned", "state_marked", "act_on_marks", "act_on", "state_end", "run", "_law_purse", "_law_coin", "_law_words", "_law_ds_ratio", "_law_ds_act", "_law_ds_begun"] : List PySem.Str) ++ (["_law_ds_room", "_law_ds_why", "_law_ds_done", "_law_ds_where", "_law_ds_values", "_law_ds_straight", "_law_ds_openings", "_law_right"] : List PySem.Str)
theorem runA2 (w : World) : runOb RowL hkL obL 6000 (w.withFollow "special-get-raises" false) := by
  intro os
  kernel_rfl
theorem runB2 (w : World) : runOb RowL hkL obL 6000 (w.withFollow "special-get-raises" true) := by
  intro os
  kernel_rfl
theorem runA1 (w : World) : runLS RowL (PySem.W.view RowL.prog [53]) looseL 6000 (w.withFollow "special-get-raises" false) := by
  intro os
  kernel_rfl
theorem runA (w : World) : HandSHeadRun.RunEq RowL (PySem.W.view RowL.prog [53]) hkL obL 6000 looseL (w.withFollow "special-get-raises" false) := run_of2 (runA1 w) (runA2 w)
theorem runB1 (w : World) : runLS RowL (PySem.W.view RowL.prog [53]) looseL 6000 (w.withFollow "special-get-raises" true) := by
  intro os
  kernel_rfl
theorem runB (w : World) : HandSHeadRun.RunEq RowL (PySem.W.view RowL.prog [53]) hkL obL 6000 looseL (w.withFollow "special-get-raises" true) := run_of2 (runB1 w) (runB2 w)
theorem runL (w : World) : HandSHeadRun.RunEq RowL (PySem.W.view RowL.prog [53]) hkL obL 6000 looseL w := PySem.W.byRow2 "special-get-raises" (P := fun w => HandSHeadRun.RunEq RowL (PySem.W.view RowL.prog [53]) hkL obL 6000 looseL w) runA runB w
def Ctx (_P : Program) (w : World) (K : PySem.W.Frag) (mg : Str → Option Value) (base : Heap) : Prop := K.In base ∧ base.Ns mainGlobals mg ∧ SaysF faL fnL tsL gsL exB w K
section
variable {P : Program} {w : World} {K : PySem.W.Frag} {mg : Str → Option Value} {base : Heap}
theorem mg__wall (B : Ctx P w K mg base) : mg "_wall" = some (.ref (He.ga K "_wall")) := He.glo_ok B.1 B.2.1 (B.2.2.1.fact 0 (f := .glo "_wall") rfl)
theorem mg_DividerError (B : Ctx P w K mg base) : mg "DividerError" = some (.ref (He.ga K "DividerError")) := He.glo_ok B.1 B.2.1 (B.2.2.1.fact 1 (f := .glo "DividerError") rfl)
theorem mg_InvalidDeed (B : Ctx P w K mg base) : mg "InvalidDeed" = some (.ref (He.ga K "InvalidDeed")) := He.glo_ok B.1 B.2.1 (B.2.2.1.fact 2 (f := .glo "InvalidDeed") rfl)
theorem mg_InvalidName (B : Ctx P w K mg base) : mg "InvalidName" = some (.ref (He.ga K "InvalidName")) := He.glo_ok B.1 B.2.1 (B.2.2.1.fact 3 (f := .glo "InvalidName") rfl)
theorem mg_InvalidFraction (B : Ctx P w K mg base) : mg "InvalidFraction" = some (.ref (He.ga K "InvalidFraction")) := He.glo_ok B.1 B.2.1 (B.2.2.1.fact 4 (f := .glo "InvalidFraction") rfl)
theorem mg_UnknownDeed (B : Ctx P w K mg base) : mg "UnknownDeed" = some (.ref (He.ga K "UnknownDeed")) := He.glo_ok B.1 B.2.1 (B.2.2.1.fact 5 (f := .glo "UnknownDeed") rfl)
theorem mg_common_divisor (B : Ctx P w K mg base) : mg "common_divisor" = some (.ref (He.ga K "common_divisor")) := He.glo_ok B.1 B.2.1 (B.2.2.1.fact 6 (f := .glo "common_divisor") rfl)
theorem mg_is_fraction (B : Ctx P w K mg base) : mg "is_fraction" = some (.ref (He.ga K "is_fraction")) := He.glo_ok B.1 B.2.1 (B.2.2.1.fact 7 (f := .glo "is_fraction") rfl)
theorem mg_is_opening (B : Ctx P w K mg base) : mg "is_opening" = some (.ref (He.ga K "is_opening")) := He.glo_ok B.1 B.2.1 (B.2.2.1.fact 8 (f := .glo "is_opening") rfl)
theorem mg_fraction (B : Ctx P w K mg base) : mg "fraction" = some (.ref (He.ga K "fraction")) := He.glo_ok B.1 B.2.1 (B.2.2.1.fact 9 (f := .glo "fraction") rfl)
theorem mg_LETTERS (B : Ctx P w K mg base) : ∃ t, mg "LETTERS" = some (.str "abcdefghijklmnopqrstuvwxyz" t) := He.str_ok B.1 B.2.1 (B.2.2.1.fact 10 (f := .str "LETTERS" "abcdefghijklmnopqrstuvwxyz") rfl)
theorem mg_LONGEST_NAME (B : Ctx P w K mg base) : ∃ t, mg "LONGEST_NAME" = some (.int 8 t) := He.int_ok B.1 B.2.1 (B.2.2.1.fact 11 (f := .int "LONGEST_NAME" 8) rfl)
theorem mg_DEED_THINGS (B : Ctx P w K mg base) : mg "DEED_THINGS" = some (.ref (He.ga K "DEED_THINGS")) := He.glo_ok B.1 B.2.1 (B.2.2.1.fact 12 (f := .glo "DEED_THINGS") rfl)
theorem mg_is_name (B : Ctx P w K mg base) : mg "is_name" = some (.ref (He.ga K "is_name")) := He.glo_ok B.1 B.2.1 (B.2.2.1.fact 13 (f := .glo "is_name") rfl)
theorem mg_deed_names (B : Ctx P w K mg base) : mg "deed_names" = some (.ref (He.ga K "deed_names")) := He.glo_ok B.1 B.2.1 (B.2.2.1.fact 14 (f := .glo "deed_names") rfl)
theorem mg_checked_deed (B : Ctx P w K mg base) : mg "checked_deed" = some (.ref (He.ga K "checked_deed")) := He.glo_ok B.1 B.2.1 (B.2.2.1.fact 15 (f := .glo "checked_deed") rfl)
theorem mg_kept_deeds (B : Ctx P w K mg base) : mg "kept_deeds" = some (.ref (He.ga K "kept_deeds")) := He.glo_ok B.1 B.2.1 (B.2.2.1.fact 16 (f := .glo "kept_deeds") rfl)
theorem mg_Script (B : Ctx P w K mg base) : mg "Script" = some (.ref (He.ga K "Script")) := He.glo_ok B.1 B.2.1 (B.2.2.1.fact 17 (f := .glo "Script") rfl)
theorem mg_LEFT_END (B : Ctx P w K mg base) : mg "LEFT_END" = some (.ref (He.ga K "LEFT_END")) := He.glo_ok B.1 B.2.1 (B.2.2.1.fact 18 (f := .glo "LEFT_END") rfl)
theorem mg_RIGHT_END (B : Ctx P w K mg base) : mg "RIGHT_END" = some (.ref (He.ga K "RIGHT_END")) := He.glo_ok B.1 B.2.1 (B.2.2.1.fact 19 (f := .glo "RIGHT_END") rfl)
theorem mg_checked_opening (B : Ctx P w K mg base) : mg "checked_opening" = some (.ref (He.ga K "checked_opening")) := He.glo_ok B.1 B.2.1 (B.2.2.1.fact 20 (f := .glo "checked_opening") rfl)
theorem mg_state_begun (B : Ctx P w K mg base) : mg "state_begun" = some (.ref (He.ga K "state_begun")) := He.glo_ok B.1 B.2.1 (B.2.2.1.fact 21 (f := .glo "state_begun") rfl)
theorem mg_state_gap (B : Ctx P w K mg base) : mg "state_gap" = some (.ref (He.ga K "state_gap")) := He.glo_ok B.1 B.2.1 (B.2.2.1.fact 22 (f := .glo "state_gap") rfl)
theorem mg_state_fits (B : Ctx P w K mg base) : mg "state_fits" = some (.ref (He.ga K "state_fits")) := He.glo_ok B.1 B.2.1 (B.2.2.1.fact 23 (f := .glo "state_fits") rfl)
theorem mg_state_moved (B : Ctx P w K mg base) : mg "state_moved" = some (.ref (He.ga K "state_moved")) := He.glo_ok B.1 B.2.1 (B.2.2.1.fact 24 (f := .glo "state_moved") rfl)
theorem mg_state_set (B : Ctx P w K mg base) : mg "state_set" = some (.ref (He.ga K "state_set")) := He.glo_ok B.1 B.2.1 (B.2.2.1.fact 25 (f := .glo "state_set") rfl)
theorem mg_place_of (B : Ctx P w K mg base) : mg "place_of" = some (.ref (He.ga K "place_of")) := He.glo_ok B.1 B.2.1 (B.2.2.1.fact 26 (f := .glo "place_of") rfl)
theorem mg_distance (B : Ctx P w K mg base) : mg "distance" = some (.ref (He.ga K "distance")) := He.glo_ok B.1 B.2.1 (B.2.2.1.fact 27 (f := .glo "distance") rfl)
theorem mg_state_spanned (B : Ctx P w K mg base) : mg "state_spanned" = some (.ref (He.ga K "state_spanned")) := He.glo_ok B.1 B.2.1 (B.2.2.1.fact 28 (f := .glo "state_spanned") rfl)
theorem mg_state_marked (B : Ctx P w K mg base) : mg "state_marked" = some (.ref (He.ga K "state_marked")) := He.glo_ok B.1 B.2.1 (B.2.2.1.fact 29 (f := .glo "state_marked") rfl)
theorem mg_act_on_marks (B : Ctx P w K mg base) : mg "act_on_marks" = some (.ref (He.ga K "act_on_marks")) := He.glo_ok B.1 B.2.1 (B.2.2.1.fact 30 (f := .glo "act_on_marks") rfl)
theorem mg_act_on (B : Ctx P w K mg base) : mg "act_on" = some (.ref (He.ga K "act_on")) := He.glo_ok B.1 B.2.1 (B.2.2.1.fact 31 (f := .glo "act_on") rfl)
theorem mg_state_end (B : Ctx P w K mg base) : mg "state_end" = some (.ref (He.ga K "state_end")) := He.glo_ok B.1 B.2.1 (B.2.2.1.fact 32 (f := .glo "state_end") rfl)
theorem mg_run (B : Ctx P w K mg base) : mg "run" = some (.ref (He.ga K "run")) := He.glo_ok B.1 B.2.1 (B.2.2.1.fact 33 (f := .glo "run") rfl)
theorem mg__law_purse (B : Ctx P w K mg base) : mg "_law_purse" = some (.ref (He.ga K "_law_purse")) := He.glo_ok B.1 B.2.1 (B.2.2.1.fact 34 (f := .glo "_law_purse") rfl)
theorem mg__law_coin (B : Ctx P w K mg base) : mg "_law_coin" = some (.ref (He.ga K "_law_coin")) := He.glo_ok B.1 B.2.1 (B.2.2.1.fact 35 (f := .glo "_law_coin") rfl)
theorem mg__law_words (B : Ctx P w K mg base) : mg "_law_words" = some (.ref (He.ga K "_law_words")) := He.glo_ok B.1 B.2.1 (B.2.2.1.fact 36 (f := .glo "_law_words") rfl)
theorem mg__law_ds_ratio (B : Ctx P w K mg base) : mg "_law_ds_ratio" = some (.ref (He.ga K "_law_ds_ratio")) := He.glo_ok B.1 B.2.1 (B.2.2.1.fact 37 (f := .glo "_law_ds_ratio") rfl)
theorem mg__law_ds_act (B : Ctx P w K mg base) : mg "_law_ds_act" = some (.ref (He.ga K "_law_ds_act")) := He.glo_ok B.1 B.2.1 (B.2.2.1.fact 38 (f := .glo "_law_ds_act") rfl)
theorem mg__law_ds_begun (B : Ctx P w K mg base) : mg "_law_ds_begun" = some (.ref (He.ga K "_law_ds_begun")) := He.glo_ok B.1 B.2.1 (B.2.2.1.fact 39 (f := .glo "_law_ds_begun") rfl)
theorem mg__law_ds_room (B : Ctx P w K mg base) : mg "_law_ds_room" = some (.ref (He.ga K "_law_ds_room")) := He.glo_ok B.1 B.2.1 (B.2.2.1.fact 40 (f := .glo "_law_ds_room") rfl)
theorem mg__law_ds_why (B : Ctx P w K mg base) : mg "_law_ds_why" = some (.ref (He.ga K "_law_ds_why")) := He.glo_ok B.1 B.2.1 (B.2.2.1.fact 41 (f := .glo "_law_ds_why") rfl)
theorem mg__law_ds_done (B : Ctx P w K mg base) : mg "_law_ds_done" = some (.ref (He.ga K "_law_ds_done")) := He.glo_ok B.1 B.2.1 (B.2.2.1.fact 42 (f := .glo "_law_ds_done") rfl)
theorem mg__law_ds_where (B : Ctx P w K mg base) : mg "_law_ds_where" = some (.ref (He.ga K "_law_ds_where")) := He.glo_ok B.1 B.2.1 (B.2.2.1.fact 43 (f := .glo "_law_ds_where") rfl)
theorem mg__law_ds_values (B : Ctx P w K mg base) : mg "_law_ds_values" = some (.ref (He.ga K "_law_ds_values")) := He.glo_ok B.1 B.2.1 (B.2.2.1.fact 44 (f := .glo "_law_ds_values") rfl)
theorem mg__law_ds_straight (B : Ctx P w K mg base) : mg "_law_ds_straight" = some (.ref (He.ga K "_law_ds_straight")) := He.glo_ok B.1 B.2.1 (B.2.2.1.fact 45 (f := .glo "_law_ds_straight") rfl)
theorem mg__law_ds_openings (B : Ctx P w K mg base) : mg "_law_ds_openings" = some (.ref (He.ga K "_law_ds_openings")) := He.glo_ok B.1 B.2.1 (B.2.2.1.fact 46 (f := .glo "_law_ds_openings") rfl)
theorem mg__law_right (B : Ctx P w K mg base) : mg "_law_right" = some (.ref (He.ga K "_law_right")) := He.glo_ok B.1 B.2.1 (B.2.2.1.fact 47 (f := .glo "_law_right") rfl)
theorem mg_law (B : Ctx P w K mg base) : mg "law" = some (.ref (He.ga K "law")) := He.glo_ok B.1 B.2.1 (B.2.2.1.fact 48 (f := .glo "law") rfl)
theorem mbf_ValueError (B : Ctx P w K mg base) : mg "ValueError" = none := He.free_ok B.1 B.2.1 (B.2.2.1.fact 49 (f := .free "ValueError") rfl)
theorem mbf_abs (B : Ctx P w K mg base) : mg "abs" = none := He.free_ok B.1 B.2.1 (B.2.2.1.fact 50 (f := .free "abs") rfl)
theorem mbf_all (B : Ctx P w K mg base) : mg "all" = none := He.free_ok B.1 B.2.1 (B.2.2.1.fact 51 (f := .free "all") rfl)
theorem mbf_enumerate (B : Ctx P w K mg base) : mg "enumerate" = none := He.free_ok B.1 B.2.1 (B.2.2.1.fact 52 (f := .free "enumerate") rfl)
theorem mbf_int (B : Ctx P w K mg base) : mg "int" = none := He.free_ok B.1 B.2.1 (B.2.2.1.fact 53 (f := .free "int") rfl)
theorem mbf_isinstance (B : Ctx P w K mg base) : mg "isinstance" = none := He.free_ok B.1 B.2.1 (B.2.2.1.fact 54 (f := .free "isinstance") rfl)
theorem mbf_len (B : Ctx P w K mg base) : mg "len" = none := He.free_ok B.1 B.2.1 (B.2.2.1.fact 55 (f := .free "len") rfl)
theorem mbf_list (B : Ctx P w K mg base) : mg "list" = none := He.free_ok B.1 B.2.1 (B.2.2.1.fact 56 (f := .free "list") rfl)
theorem mbf_max (B : Ctx P w K mg base) : mg "max" = none := He.free_ok B.1 B.2.1 (B.2.2.1.fact 57 (f := .free "max") rfl)
theorem mbf_min (B : Ctx P w K mg base) : mg "min" = none := He.free_ok B.1 B.2.1 (B.2.2.1.fact 58 (f := .free "min") rfl)
theorem mbf_range (B : Ctx P w K mg base) : mg "range" = none := He.free_ok B.1 B.2.1 (B.2.2.1.fact 59 (f := .free "range") rfl)
theorem mbf_repr (B : Ctx P w K mg base) : mg "repr" = none := He.free_ok B.1 B.2.1 (B.2.2.1.fact 60 (f := .free "repr") rfl)
theorem mbf_set (B : Ctx P w K mg base) : mg "set" = none := He.free_ok B.1 B.2.1 (B.2.2.1.fact 61 (f := .free "set") rfl)
theorem mbf_sorted (B : Ctx P w K mg base) : mg "sorted" = none := He.free_ok B.1 B.2.1 (B.2.2.1.fact 62 (f := .free "sorted") rfl)
theorem mbf_tuple (B : Ctx P w K mg base) : mg "tuple" = none := He.free_ok B.1 B.2.1 (B.2.2.1.fact 63 (f := .free "tuple") rfl)
theorem exF (B : Ctx P w K mg base) (i : Nat) {f : PySem.W.Frag → Bool} (h : exL[i]? = some f) : f K = true := List.all_eq_true.mp B.2.2.2.1 f (List.mem_of_getElem? h)
theorem kd_DEED_THINGS (B : Ctx P w K mg base) : ∃ es n, KDict K w (He.ga K "DEED_THINGS") es n := B.2.2.2.2.1.tab 0
theorem tab_DEED_THINGS (B : Ctx P w K mg base) : ktabB K (He.ga K "DEED_THINGS") tb_DEED_THINGS = true := exF B 6 (f := fun K => ktabB K (He.ga K "DEED_THINGS") tb_DEED_THINGS) rfl
theorem con_LEFT_END (B : Ctx P w K mg base) : gtupB K "LEFT_END" (D.tup [(D.int 0), (D.int 1)]) = true := exF B 7 (f := fun K => gtupB K "LEFT_END" (D.tup [(D.int 0), (D.int 1)])) rfl
theorem con_RIGHT_END (B : Ctx P w K mg base) : gtupB K "RIGHT_END" (D.tup [(D.int 1), (D.int 1)]) = true := exF B 8 (f := fun K => gtupB K "RIGHT_END" (D.tup [(D.int 1), (D.int 1)])) rfl
theorem cls_Script (B : Ctx P w K mg base) : Cls K (He.ga K "Script") := He.cls_ok (B.2.2.1.fact 64 (f := .cls "Script") rfl)
theorem mkr_Script (B : Ctx P w K mg base) : Mk K (He.ga K "Script") (He.fAd K ("Script", some "__init__")) := He.mkr_ok (B.2.2.1.fact 65 (f := .mkr "Script") rfl)
theorem noat_Script (B : Ctx P w K mg base) : ∀ f ∈ (["kept"] : List Str), NoAttr K (He.ga K "Script") f := by
  intro f hf
  simp only [List.mem_cons, List.not_mem_nil, or_false] at hf
  rcases hf with rfl
  · exact He.noat_ok (B.2.2.1.fact 66 (f := .noat "Script" "kept") rfl)
theorem prop_Script_deeds (B : Ctx P w K mg base) : PropOf K (He.ga K "Script") "deeds" (He.ma K (He.ga K "Script") "deeds") (getAd K ("Script", some "deeds")) := propB_ok (exF B 5 (f := fun K => propB K "Script" "deeds") rfl)
theorem ec_DividerError (B : Ctx P w K mg base) : EC K (He.ga K "DividerError") (He.fAd K ("DividerError", some "__init__")) := ecB_ok (exF B 0 (f := fun K => ecB K (He.ga K "DividerError") (He.fAd K ("DividerError", some "__init__"))) rfl)
theorem ec_InvalidDeed (B : Ctx P w K mg base) : EC K (He.ga K "InvalidDeed") (He.fAd K ("InvalidDeed", some "__init__")) := ecB_ok (exF B 1 (f := fun K => ecB K (He.ga K "InvalidDeed") (He.fAd K ("InvalidDeed", some "__init__"))) rfl)
theorem ec_InvalidName (B : Ctx P w K mg base) : EC K (He.ga K "InvalidName") (He.fAd K ("InvalidName", some "__init__")) := ecB_ok (exF B 2 (f := fun K => ecB K (He.ga K "InvalidName") (He.fAd K ("InvalidName", some "__init__"))) rfl)
theorem ec_InvalidFraction (B : Ctx P w K mg base) : EC K (He.ga K "InvalidFraction") (He.fAd K ("InvalidFraction", some "__init__")) := ecB_ok (exF B 3 (f := fun K => ecB K (He.ga K "InvalidFraction") (He.fAd K ("InvalidFraction", some "__init__"))) rfl)
theorem ec_UnknownDeed (B : Ctx P w K mg base) : EC K (He.ga K "UnknownDeed") (He.fAd K ("UnknownDeed", some "__init__")) := ecB_ok (exF B 4 (f := fun K => ecB K (He.ga K "UnknownDeed") (He.fAd K ("UnknownDeed", some "__init__"))) rfl)
theorem sc_DividerError : FnScope nSV nSV (defScope (inClass (top 2) 0)) := ⟨rfl, rfl, rfl, by decide +kernel, rfl, by decide +kernel, by decide +kernel⟩
theorem ini_DividerError (B : Ctx P w K mg base) : ∃ fd, FnOk P w K mg base (L2.CX P w) 1 (He.fAd K ("DividerError", some "__init__")) fd nSV (spIK K) ∧ Binds K fd nSV [] := by
  obtain ⟨fd, F⟩ := B.2.2.1.def_ 1 (d := d2_0) rfl
  refine ⟨fd, F.ok sc_DividerError spIK_len fun cdv A outer s H vs Q E hr h => ?_, F.bindsN fun _ _ _ _ _ _ us hl => match us, hl with | [_, _], _ => rfl⟩
  obtain ⟨a, C', v, rfl, T, no, ea, hq⟩ := h
  refine ⟨_, pss_cons (ps_expr (pe_veinit rfl (mbf_ValueError B) (ec_DividerError B).ve (pa_cons (pv 0) (pa_cons pe_str pa_nil))) rfl) (pss_one (ps_ost (pv 0) (pv 1))), ?_⟩
  exact ⟨.ref a, rfl, a, C', _, rfl, Nat.le_of_ble_eq_true rfl, T, ea, v, rfl, .ref a, rfl, a, C', rfl, T, no, .inl ⟨ea, hq⟩⟩
theorem sc_InvalidDeed : FnScope nSV nSV (defScope (inClass (top 3) 0)) := ⟨rfl, rfl, rfl, by decide +kernel, rfl, by decide +kernel, by decide +kernel⟩
theorem ini_InvalidDeed (B : Ctx P w K mg base) : ∃ fd, FnOk P w K mg base (L2.CX P w) 2 (He.fAd K ("InvalidDeed", some "__init__")) fd nSV (spIK K) ∧ Binds K fd nSV [] := by
  obtain ⟨fd, F⟩ := B.2.2.1.def_ 2 (d := d3_0) rfl
  obtain ⟨fB, FB, bB⟩ := ini_DividerError B
  refine ⟨fd, F.ok sc_InvalidDeed spIK_len fun cdv A outer s H vs Q E hr h => ?_, F.bindsN fun _ _ _ _ _ _ us hl => match us, hl with | [_, _], _ => rfl⟩
  obtain ⟨a, C', v, rfl, T, no, ea, hq⟩ := h
  refine ⟨_, pss_one (ps_expr (pe_cinit (ec_DividerError B) rfl (mg_DividerError B) FB hr bB (E := fun _ _ _ => False) (fun pins σ H s e' s' I c => passes_call (W := fun cls d _ H => E cls d H) (takes_of rfl rfl rfl rfl) (E := fun _ _ _ => False) (fun _ _ _ _ z => z.elim) pins σ H s e' s' I c) (pa_cons (pv 0) (pa_cons (pv 1) pa_nil))) rfl), ?_⟩
  exact ⟨.ref a, rfl, v, rfl, a, C', v, rfl, T, no, ea, hq⟩
theorem sc_InvalidName : FnScope nSV nSV (defScope (inClass (top 4) 0)) := ⟨rfl, rfl, rfl, by decide +kernel, rfl, by decide +kernel, by decide +kernel⟩
theorem ini_InvalidName (B : Ctx P w K mg base) : ∃ fd, FnOk P w K mg base (L2.CX P w) 2 (He.fAd K ("InvalidName", some "__init__")) fd nSV (spIK K) ∧ Binds K fd nSV [] := by
  obtain ⟨fd, F⟩ := B.2.2.1.def_ 3 (d := d4_0) rfl
  obtain ⟨fB, FB, bB⟩ := ini_DividerError B
  refine ⟨fd, F.ok sc_InvalidName spIK_len fun cdv A outer s H vs Q E hr h => ?_, F.bindsN fun _ _ _ _ _ _ us hl => match us, hl with | [_, _], _ => rfl⟩
  obtain ⟨a, C', v, rfl, T, no, ea, hq⟩ := h
  refine ⟨_, pss_one (ps_expr (pe_cinit (ec_DividerError B) rfl (mg_DividerError B) FB hr bB (E := fun _ _ _ => False) (fun pins σ H s e' s' I c => passes_call (W := fun cls d _ H => E cls d H) (takes_of rfl rfl rfl rfl) (E := fun _ _ _ => False) (fun _ _ _ _ z => z.elim) pins σ H s e' s' I c) (pa_cons (pv 0) (pa_cons (pv 1) pa_nil))) rfl), ?_⟩
  exact ⟨.ref a, rfl, v, rfl, a, C', v, rfl, T, no, ea, hq⟩
theorem sc_InvalidFraction : FnScope nSV nSV (defScope (inClass (top 5) 0)) := ⟨rfl, rfl, rfl, by decide +kernel, rfl, by decide +kernel, by decide +kernel⟩
theorem ini_InvalidFraction (B : Ctx P w K mg base) : ∃ fd, FnOk P w K mg base (L2.CX P w) 2 (He.fAd K ("InvalidFraction", some "__init__")) fd nSV (spIK K) ∧ Binds K fd nSV [] := by
  obtain ⟨fd, F⟩ := B.2.2.1.def_ 4 (d := d5_0) rfl
  obtain ⟨fB, FB, bB⟩ := ini_DividerError B
  refine ⟨fd, F.ok sc_InvalidFraction spIK_len fun cdv A outer s H vs Q E hr h => ?_, F.bindsN fun _ _ _ _ _ _ us hl => match us, hl with | [_, _], _ => rfl⟩
  obtain ⟨a, C', v, rfl, T, no, ea, hq⟩ := h
  refine ⟨_, pss_one (ps_expr (pe_cinit (ec_DividerError B) rfl (mg_DividerError B) FB hr bB (E := fun _ _ _ => False) (fun pins σ H s e' s' I c => passes_call (W := fun cls d _ H => E cls d H) (takes_of rfl rfl rfl rfl) (E := fun _ _ _ => False) (fun _ _ _ _ z => z.elim) pins σ H s e' s' I c) (pa_cons (pv 0) (pa_cons (pv 1) pa_nil))) rfl), ?_⟩
  exact ⟨.ref a, rfl, v, rfl, a, C', v, rfl, T, no, ea, hq⟩
theorem sc_UnknownDeed : FnScope nSV nSV (defScope (inClass (top 6) 0)) := ⟨rfl, rfl, rfl, by decide +kernel, rfl, by decide +kernel, by decide +kernel⟩
theorem ini_UnknownDeed (B : Ctx P w K mg base) : ∃ fd, FnOk P w K mg base (L2.CX P w) 2 (He.fAd K ("UnknownDeed", some "__init__")) fd nSV (spIK K) ∧ Binds K fd nSV [] := by
  obtain ⟨fd, F⟩ := B.2.2.1.def_ 5 (d := d6_0) rfl
  obtain ⟨fB, FB, bB⟩ := ini_DividerError B
  refine ⟨fd, F.ok sc_UnknownDeed spIK_len fun cdv A outer s H vs Q E hr h => ?_, F.bindsN fun _ _ _ _ _ _ us hl => match us, hl with | [_, _], _ => rfl⟩
  obtain ⟨a, C', v, rfl, T, no, ea, hq⟩ := h
  refine ⟨_, pss_one (ps_expr (pe_cinit (ec_DividerError B) rfl (mg_DividerError B) FB hr bB (E := fun _ _ _ => False) (fun pins σ H s e' s' I c => passes_call (W := fun cls d _ H => E cls d H) (takes_of rfl rfl rfl rfl) (E := fun _ _ _ => False) (fun _ _ _ _ z => z.elim) pins σ H s e' s' I c) (pa_cons (pv 0) (pa_cons (pv 1) pa_nil))) rfl), ?_⟩
  exact ⟨.ref a, rfl, v, rfl, a, C', v, rfl, T, no, ea, hq⟩

/-! ### _wall -/
abbrev N__wall : List Str := ["k"]
abbrev P__wall : List Str := ["k"]
def p0__wall (ρ : Rho) (Q : Bool → Rho → Zs → Prop) (X : Er → Rho → Zs → Prop) (z : Zs) : Prop := (tV (ep (.bl true))) ρ Q X z
def p1__wall (ρ : Rho) (Q : Fl → Rho → Zs → Prop) (X : Er → Rho → Zs → Prop) (z : Zs) : Prop := (ep .nx) ρ Q X z
def s__wall : E Fl := (sWhile p0__wall p1__wall)
def m__wall : List D → E0 D := dF 1 s__wall
theorem me__wall (a0 : D) (Q : D → Zs → Prop) (X : Er → Zs → Prop) (z : Zs) : m__wall [a0] Q X z = s__wall [Sl.fr a0] (outF Q) (fun e _ z => X e z) z := rfl
theorem sc__wall : FnScope N__wall P__wall (defScope (top 0)) := ⟨rfl, rfl, rfl, by decide +kernel, rfl, by decide +kernel, by decide +kernel⟩
theorem ok__wall (B : Ctx P w K mg base) : ∃ fd, GFn P w K mg base "_wall" 1 (He.fAd K ("_wall", none)) fd P__wall (spF K mg 1 m__wall) := by
  obtain ⟨fd, F⟩ := B.2.2.1.def_ 0 (d := d0) rfl
  refine ⟨fd, ⟨fnF_of (k := 0) F sc__wall fun cdv A outer s H E pa F0 kx => ?_, mg__wall B, F.kp, bg_pos (F.bindsN fun _ _ _ _ _ _ us hl => match us, hl with | [_], _ => rfl)⟩⟩
  exact (xss_one (xs_while kx (xt_tru rfl (XE.p xe_bl)) (xss_one xs_pass)))

/-! ### common_divisor -/
abbrev N_common_divisor : List Str := ["one", "other"]
abbrev P_common_divisor : List Str := ["one", "other"]
def p0_common_divisor (ρ : Rho) (Q : Bool → Rho → Zs → Prop) (X : Er → Rho → Zs → Prop) (z : Zs) : Prop := (eT (bO dNe (ePk 1) (ep (.int 0)))) ρ Q X z
def p1_common_divisor (ρ : Rho) (Q : Fl → Rho → Zs → Prop) (X : Er → Rho → Zs → Prop) (z : Zs) : Prop := (sPar 0 1 (aC (eVar 1) (aC (bO dMod (ePk 0) (ePk 1)) aN))) ρ Q X z
def s_common_divisor : E Fl := (sSeq (sPar 0 1 (aC (uO dAbs (ePk 0)) (aC (uO dAbs (ePk 1)) aN)))
    (sSeq (sWhile p0_common_divisor p1_common_divisor)
    (sRet (eVar 0))))
def m_common_divisor : List D → E0 D := dF 2 s_common_divisor
theorem me_common_divisor (a0 a1 : D) (Q : D → Zs → Prop) (X : Er → Zs → Prop) (z : Zs) : m_common_divisor [a0, a1] Q X z = s_common_divisor [Sl.fr a0, Sl.fr a1] (outF Q) (fun e _ z => X e z) z := rfl
theorem sc_common_divisor : FnScope N_common_divisor P_common_divisor (defScope (top 8)) := ⟨rfl, rfl, rfl, by decide +kernel, rfl, by decide +kernel, by decide +kernel⟩
theorem ok_common_divisor (B : Ctx P w K mg base) : ∃ fd, GFn P w K mg base "common_divisor" 1 (He.fAd K ("common_divisor", none)) fd P_common_divisor (spF K mg 2 m_common_divisor) := by
  obtain ⟨fd, F⟩ := B.2.2.1.def_ 6 (d := d8) rfl
  have mb_abs := mbf_abs B
  refine ⟨fd, ⟨fnF_of (k := 0) F sc_common_divisor fun cdv A outer s H E pa F0 kx => ?_, mg_common_divisor B, F.kp, bg_pos (F.bindsN fun _ _ _ _ _ _ us hl => match us, hl with | [_, _], _ => rfl)⟩⟩
  exact (xss_cons (xs_par 0 1 kx.calm kx.nd rfl rfl (by decide) rfl rfl (xa_cons (xe_abs rfl mb_abs (xp_var 0 (pv 0))) (xa_cons (xe_abs rfl mb_abs (xp_var 1 (pv 1))) xa_nil)) rfl) (xss_cons (xs_while kx (xt_cmp (op_ne2 kx.hu) o_ne (xp_var 1 (pv 1)) (XE.p xe_int) rfl) (xss_one (xs_par 0 1 kx.calm kx.nd rfl rfl (by decide) rfl rfl (xa_cons (xe_var 1 (pv 1)) (xa_cons (xe_op op_modN (o_mod) (xp_var 0 (pv 0)) (xp_var 1 (pv 1))) xa_nil)) rfl))) (xss_one (xs_ret (xe_var 0 (pv 0))))))

/-! ### is_fraction -/
abbrev N_is_fraction : List Str := ["told"]
abbrev P_is_fraction : List Str := ["told"]
def s_is_fraction : E Fl := (sRet (eAndV (bO dGe (bO dIx (ePk 0) (ep (.int 1))) (ep (.int 1))) (bO dEq (eCall 2 2 0 m_common_divisor gL (aC (bO dIx (ePk 0) (ep (.int 0))) (aC (bO dIx (ePk 0) (ep (.int 1))) aN)) aN) (ep (.int 1)))))
def m_is_fraction : List D → E0 D := dF 1 s_is_fraction
theorem me_is_fraction (a0 : D) (Q : D → Zs → Prop) (X : Er → Zs → Prop) (z : Zs) : m_is_fraction [a0] Q X z = s_is_fraction [Sl.fr a0] (outF Q) (fun e _ z => X e z) z := rfl
theorem sc_is_fraction : FnScope N_is_fraction P_is_fraction (defScope (top 9)) := ⟨rfl, rfl, rfl, by decide +kernel, rfl, by decide +kernel, by decide +kernel⟩
theorem ok_is_fraction (B : Ctx P w K mg base) : ∃ fd, GFn P w K mg base "is_fraction" 2 (He.fAd K ("is_fraction", none)) fd P_is_fraction (spF K mg 1 m_is_fraction) := by
  obtain ⟨fd, F⟩ := B.2.2.1.def_ 7 (d := d9) rfl
  obtain ⟨fd_common_divisor, g_common_divisor⟩ := ok_common_divisor B
  refine ⟨fd, ⟨fnF_of (k := 1) F sc_is_fraction fun cdv A outer s H E pa F0 kx => ?_, mg_is_fraction B, F.kp, bg_pos (F.bindsN fun _ _ _ _ _ _ us hl => match us, hl with | [_], _ => rfl)⟩⟩
  exact (xss_one (xs_ret (xe_and (xe_cmp op_ge o_ge (XE.p (xe_ix rfl (xp_var 0 (pv 0)) (XE.p xe_int) (fun _ _ => rfl))) (XE.p xe_int) rfl) (xe_one (xe_cmp (op_eq2 kx.hu) o_eq (XE.p (xe_call g_common_divisor.g kx (by omega) g_common_divisor.bg rfl (xa_cons (xe_ix rfl (xp_var 0 (pv 0)) (XE.p xe_int) (fun _ _ => rfl)) (xa_cons (xe_ix rfl (xp_var 0 (pv 0)) (XE.p xe_int) (fun _ _ => rfl)) xa_nil)))) (XE.p xe_int) rfl)))))

/-! ### is_opening -/
abbrev N_is_opening : List Str := ["told"]
abbrev P_is_opening : List Str := ["told"]
def s_is_opening : E Fl := (sRet (eAndV (eCall 1 1 0 m_is_fraction gL (aC (eVar 0) aN) aN) (eCh dLt dLe (ep (.int 0)) (bO dIx (ePk 0) (ep (.int 0))) (bO dIx (ePk 0) (ep (.int 1))))))
def m_is_opening : List D → E0 D := dF 1 s_is_opening
theorem me_is_opening (a0 : D) (Q : D → Zs → Prop) (X : Er → Zs → Prop) (z : Zs) : m_is_opening [a0] Q X z = s_is_opening [Sl.fr a0] (outF Q) (fun e _ z => X e z) z := rfl
theorem sc_is_opening : FnScope N_is_opening P_is_opening (defScope (top 10)) := ⟨rfl, rfl, rfl, by decide +kernel, rfl, by decide +kernel, by decide +kernel⟩
theorem ok_is_opening (B : Ctx P w K mg base) : ∃ fd, GFn P w K mg base "is_opening" 3 (He.fAd K ("is_opening", none)) fd P_is_opening (spF K mg 1 m_is_opening) := by
  obtain ⟨fd, F⟩ := B.2.2.1.def_ 8 (d := d10) rfl
  obtain ⟨fd_is_fraction, g_is_fraction⟩ := ok_is_fraction B
  refine ⟨fd, ⟨fnF_of (k := 2) F sc_is_opening fun cdv A outer s H E pa F0 kx => ?_, mg_is_opening B, F.kp, bg_pos (F.bindsN fun _ _ _ _ _ _ us hl => match us, hl with | [_], _ => rfl)⟩⟩
  exact (xss_one (xs_ret (xe_and (xe_call g_is_fraction.g kx (by omega) g_is_fraction.bg rfl (xa_cons (xe_var 0 (pv 0)) xa_nil)) (xe_one (xe_chain op_lt2 o_lt op_le o_le (XE.p xe_int) (XE.p (xe_ix rfl (xp_var 0 (pv 0)) (XE.p xe_int) (fun _ _ => rfl))) (XE.p (xe_ix rfl (xp_var 0 (pv 0)) (XE.p xe_int) (fun _ _ => rfl))))))))

/-! ### fraction -/
abbrev N_fraction : List Str := ["above", "below", "share"]
abbrev P_fraction : List Str := ["above", "below"]
def s_fraction : E Fl := (sSeq (sIf (eT (bO dEq (ePk 1) (ep (.int 0))))
    (sRaise "InvalidFraction" (eTup (aC (eVar 0) (aC (eVar 1) aN))))
    (ep .nx))
    (sSeq (sAsg (eCall 2 2 0 m_common_divisor gL (aC (eVar 0) (aC (eVar 1) aN)) aN) (gN 2))
    (sSeq (sIf (eT (bO dLt (ePk 1) (ep (.int 0))))
    (sAsg (uO dNeg (ePk 2)) (gN 2))
    (ep .nx))
    (sRet (eTup (aC (bO dDiv (ePk 0) (ePk 2)) (aC (bO dDiv (ePk 1) (ePk 2)) aN)))))))
def m_fraction : List D → E0 D := dF 3 s_fraction
theorem me_fraction (a0 a1 : D) (Q : D → Zs → Prop) (X : Er → Zs → Prop) (z : Zs) : m_fraction [a0, a1] Q X z = s_fraction [Sl.fr a0, Sl.fr a1, Sl.no] (outF Q) (fun e _ z => X e z) z := rfl
theorem sc_fraction : FnScope N_fraction P_fraction (defScope (top 11)) := ⟨rfl, rfl, rfl, by decide +kernel, rfl, by decide +kernel, by decide +kernel⟩
theorem ok_fraction (B : Ctx P w K mg base) : ∃ fd, GFn P w K mg base "fraction" 4 (He.fAd K ("fraction", none)) fd P_fraction (spF K mg 2 m_fraction) := by
  obtain ⟨fd, F⟩ := B.2.2.1.def_ 9 (d := d11) rfl
  obtain ⟨fd_common_divisor, g_common_divisor⟩ := ok_common_divisor B
  obtain ⟨fI_InvalidFraction, i1_InvalidFraction, i2_InvalidFraction⟩ := ini_InvalidFraction B
  refine ⟨fd, ⟨fnF_of (k := 3) F sc_fraction fun cdv A outer s H E pa F0 kx => ?_, mg_fraction B, F.kp, bg_pos (F.bindsN fun _ _ _ _ _ _ us hl => match us, hl with | [_, _], _ => rfl)⟩⟩
  exact (xss_cons (xs_if (xt_cmp (op_eq2 kx.hu) o_eq (xp_var 1 (pv 1)) (XE.p xe_int) rfl) (xss_one (xs_raise kx (ec_InvalidFraction B) i1_InvalidFraction (by omega) i2_InvalidFraction rfl (mg_InvalidFraction B) (xe_tup (xa_cons (xe_var 0 (pv 0)) (xa_cons (xe_var 1 (pv 1)) xa_nil))))) xss_nil) (xss_cons (xs_set 2 (xe_call g_common_divisor.g kx (by omega) g_common_divisor.bg rfl (xa_cons (xe_var 0 (pv 0)) (xa_cons (xe_var 1 (pv 1)) xa_nil))) kx.nd rfl (by first | exact .inl rfl | exact .inr rfl)) (xss_cons (xs_if (xt_cmp op_lt2 o_lt (xp_var 1 (pv 1)) (XE.p xe_int) rfl) (xss_one (xs_set 2 (xe_neg (xp_var 2 (pv 2))) kx.nd rfl (by first | exact .inl rfl | exact .inr rfl))) xss_nil) (xss_one (xs_ret (xe_tup (xa_cons (xe_op op_divG (o_div) (xp_var 0 (pv 0)) (xp_var 2 (pv 2))) (xa_cons (xe_op op_divG (o_div) (xp_var 1 (pv 1)) (xp_var 2 (pv 2))) xa_nil))))))))

/-! ### is_name -/
abbrev N_is_name : List Str := ["text", "letter"]
abbrev P_is_name : List Str := ["text"]
def p0_is_name (ρ : Rho) (Q : D → Rho → Zs → Prop) (X : Er → Rho → Zs → Prop) (z : Zs) : Prop := (bO dIn (ePk 1) (ep (.str "abcdefghijklmnopqrstuvwxyz"))) ρ Q X z
def s_is_name : E Fl := (sRet (eAndV (eCh dLe dLe (ep (.int 1)) (uO dLen (ePk 0)) (ep (.int 8))) (uO dAll (oP (eLc [1] (eb (eVar 0) fStrI) (gN 1) (ep true) p0_is_name)))))
def m_is_name : List D → E0 D := dF 2 s_is_name
theorem me_is_name (a0 : D) (Q : D → Zs → Prop) (X : Er → Zs → Prop) (z : Zs) : m_is_name [a0] Q X z = s_is_name [Sl.fr a0, Sl.no] (outF Q) (fun e _ z => X e z) z := rfl
theorem sc_is_name : FnScope N_is_name P_is_name (defScope (top 16)) := ⟨rfl, rfl, rfl, by decide +kernel, rfl, by decide +kernel, by decide +kernel⟩
theorem ok_is_name (B : Ctx P w K mg base) : ∃ fd, GFn P w K mg base "is_name" 1 (He.fAd K ("is_name", none)) fd P_is_name (spF K mg 1 m_is_name) := by
  obtain ⟨fd, F⟩ := B.2.2.1.def_ 10 (d := d16) rfl
  have mb_all := mbf_all B
  have mb_len := mbf_len B
  refine ⟨fd, ⟨fnF_of (k := 0) F sc_is_name fun cdv A outer s H E pa F0 kx => ?_, mg_is_name B, F.kp, bg_pos (F.bindsN fun _ _ _ _ _ _ us hl => match us, hl with | [_], _ => rfl)⟩⟩
  exact (xss_one (xs_ret (xe_and (xe_chain op_le o_le op_le o_le (XE.p xe_int) (XE.p (xe_len rfl rfl mb_len (xp_var 0 (pv 0)))) (XE.p (xe_gint rfl (mg_LONGEST_NAME B)))) (xe_one (xe_all kx rfl mb_all (XO.p (xo_lc (own := [("letter", 1)]) kx (xi_str (xe_var 0 (pv 0))) (by kernel_rfl) (fun _ _ _ _ _ _ kx => (xg_name 1 (pg_name kx.nd rfl (by first | exact .inl rfl | exact .inr rfl)))) (fun _ _ _ _ _ _ kx => xts_nil) (fun _ _ _ _ _ _ kx => (xe_cmp (op_in2 kx.hu) o_in (xp_var 1 (pv 1)) (XE.p (xe_gstr rfl (mg_LETTERS B))) rfl)) (by decide))))))))

/-! ### deed_names -/
abbrev N_deed_names : List Str := ["deed"]
abbrev P_deed_names : List Str := ["deed"]
def s_deed_names : E Fl := (sRet (eb (ePk 0) fun d => eb (eb (bO dAdd (ep (.int 1)) (bO dIx (eb (bO dIx (ePk 0) (ep (.int 0))) fun y => eP (dKey tb_DEED_THINGS y)) (ep (.int 0)))) fPart) fun lo => eb (ep none) fun hi => fSlE d lo hi))
def m_deed_names : List D → E0 D := dF 1 s_deed_names
theorem me_deed_names (a0 : D) (Q : D → Zs → Prop) (X : Er → Zs → Prop) (z : Zs) : m_deed_names [a0] Q X z = s_deed_names [Sl.fr a0] (outF Q) (fun e _ z => X e z) z := rfl
theorem sc_deed_names : FnScope N_deed_names P_deed_names (defScope (top 17)) := ⟨rfl, rfl, rfl, by decide +kernel, rfl, by decide +kernel, by decide +kernel⟩
theorem ok_deed_names (B : Ctx P w K mg base) : ∃ fd, GFn P w K mg base "deed_names" 1 (He.fAd K ("deed_names", none)) fd P_deed_names (spF K mg 1 m_deed_names) := by
  obtain ⟨fd, F⟩ := B.2.2.1.def_ 11 (d := d17) rfl
  refine ⟨fd, ⟨fnF_of (k := 0) F sc_deed_names fun cdv A outer s H E pa F0 kx => ?_, mg_deed_names B, F.kp, bg_pos (F.bindsN fun _ _ _ _ _ _ us hl => match us, hl with | [_], _ => rfl)⟩⟩
  exact (xss_one (xs_ret (xe_slice rfl (xp_var 0 (pv 0)) (xpt_some (XE.p (xe_op op_add4 (o_add) (XE.p xe_int) (XE.p (xe_ix rfl (XE.p (xe_tab rfl (kd_DEED_THINGS B) (tab_DEED_THINGS B) rfl (mg_DEED_THINGS B) (XE.p (xe_ix rfl (xp_var 0 (pv 0)) (XE.p xe_int) (fun _ _ => rfl))) (fun _ _ => rfl))) (XE.p xe_int) (fun _ _ => rfl)))))) xpt_none)))

/-! ### checked_deed -/
abbrev N_checked_deed : List Str := ["deed", "name", "numbers", "many"]
abbrev P_checked_deed : List Str := ["deed"]
def p0_checked_deed (ρ : Rho) (Q : Fl → Rho → Zs → Prop) (X : Er → Rho → Zs → Prop) (z : Zs) : Prop := (sIf (tN (tV (eCall 1 1 0 m_is_name gL (aC (eVar 1) aN) aN)))
    (sRaise "InvalidName" (eVar 1))
    (ep .nx)) ρ Q X z
def s_checked_deed : E Fl := (sSeq (sIf (eOr (eT (bO dEq (ePk 0) (eTup aN))) (eT (eb (bO dIx (ePk 0) (ep (.int 0))) fun y => eP (dNotInK tb_DEED_THINGS y))))
    (sRaise "InvalidDeed" (eVar 0))
    (ep .nx))
    (sSeq (sAsg (eb (bO dIx (ePk 0) (ep (.int 0))) fun y => eP (dKey tb_DEED_THINGS y)) (gTp 2 (gCn (gN 2) (gCn (gN 3) gNl))))
    (sSeq (sIf (eT (bO dNe (uO dLen (ePk 0)) (bO dAdd (bO dAdd (ep (.int 1)) (ePk 2)) (ePk 3))))
    (sRaise "InvalidDeed" (eVar 0))
    (ep .nx))
    (sSeq (sIf (eAnd (eT (bO dEq (ePk 2) (ep (.int 1)))) (eT (bO dLt (bO dIx (ePk 0) (ep (.int 1))) (ep (.int 1)))))
    (sRaise "InvalidDeed" (eVar 0))
    (ep .nx))
    (sSeq (sFor (eb (eCall 1 1 0 m_deed_names gL (aC (eVar 0) aN) aN) fSeqI) (gN 1) p0_checked_deed)
    (sRet (eVar 0)))))))
def m_checked_deed : List D → E0 D := dF 4 s_checked_deed
theorem me_checked_deed (a0 : D) (Q : D → Zs → Prop) (X : Er → Zs → Prop) (z : Zs) : m_checked_deed [a0] Q X z = s_checked_deed [Sl.fr a0, Sl.no, Sl.no, Sl.no] (outF Q) (fun e _ z => X e z) z := rfl
theorem sc_checked_deed : FnScope N_checked_deed P_checked_deed (defScope (top 18)) := ⟨rfl, rfl, rfl, by decide +kernel, rfl, by decide +kernel, by decide +kernel⟩
theorem ok_checked_deed (B : Ctx P w K mg base) : ∃ fd, GFn P w K mg base "checked_deed" 4 (He.fAd K ("checked_deed", none)) fd P_checked_deed (spF K mg 1 m_checked_deed) := by
  obtain ⟨fd, F⟩ := B.2.2.1.def_ 12 (d := d18) rfl
  obtain ⟨fd_deed_names, g_deed_names⟩ := ok_deed_names B
  obtain ⟨fd_is_name, g_is_name⟩ := ok_is_name B
  obtain ⟨fI_InvalidDeed, i1_InvalidDeed, i2_InvalidDeed⟩ := ini_InvalidDeed B
  obtain ⟨fI_InvalidName, i1_InvalidName, i2_InvalidName⟩ := ini_InvalidName B
  have mb_len := mbf_len B
  refine ⟨fd, ⟨fnF_of (k := 3) F sc_checked_deed fun cdv A outer s H E pa F0 kx => ?_, mg_checked_deed B, F.kp, bg_pos (F.bindsN fun _ _ _ _ _ _ us hl => match us, hl with | [_], _ => rfl)⟩⟩
  exact (xss_cons (xs_if (XW.t (xw_or (xt_cmp (op_eq2 kx.hu) o_eq (xp_var 0 (pv 0)) (XE.p (xe_tup xa_nil)) rfl) (xw_or1 (xt_notInK (kd_DEED_THINGS B) (tab_DEED_THINGS B) rfl (mg_DEED_THINGS B) (XE.p (xe_ix rfl (xp_var 0 (pv 0)) (XE.p xe_int) (fun _ _ => rfl))))))) (xss_one (xs_raise kx (ec_InvalidDeed B) i1_InvalidDeed (by omega) i2_InvalidDeed rfl (mg_InvalidDeed B) (xe_var 0 (pv 0)))) xss_nil) (xss_cons (xs_asg (xe_tab rfl (kd_DEED_THINGS B) (tab_DEED_THINGS B) rfl (mg_DEED_THINGS B) (XE.p (xe_ix rfl (xp_var 0 (pv 0)) (XE.p xe_int) (fun _ _ => rfl))) (fun _ _ => rfl)) (xg_tup rfl kx.calm (xgs_cons (xg_name 2 (pg_name kx.nd rfl (by first | exact .inl rfl | exact .inr rfl))) (xgs_cons (xg_name 3 (pg_name kx.nd rfl (by first | exact .inl rfl | exact .inr rfl))) xgs_nil)))) (xss_cons (xs_if (xt_cmp (op_ne2 kx.hu) o_ne (XE.p (xe_len rfl rfl mb_len (xp_var 0 (pv 0)))) (XE.p (xe_op op_add4 (o_add) (XE.p (xe_op op_add4 (o_add) (XE.p xe_int) (xp_var 2 (pv 2)))) (xp_var 3 (pv 3)))) rfl) (xss_one (xs_raise kx (ec_InvalidDeed B) i1_InvalidDeed (by omega) i2_InvalidDeed rfl (mg_InvalidDeed B) (xe_var 0 (pv 0)))) xss_nil) (xss_cons (xs_if (XW.t (xw_and (xt_cmp (op_eq2 kx.hu) o_eq (xp_var 2 (pv 2)) (XE.p xe_int) rfl) (xw_and1 (xt_cmp op_lt2 o_lt (XE.p (xe_ix rfl (xp_var 0 (pv 0)) (XE.p xe_int) (fun _ _ => rfl))) (XE.p xe_int) rfl)))) (xss_one (xs_raise kx (ec_InvalidDeed B) i1_InvalidDeed (by omega) i2_InvalidDeed rfl (mg_InvalidDeed B) (xe_var 0 (pv 0)))) xss_nil) (xss_cons (xs_for kx (xi_seq rfl (xe_call g_deed_names.g kx (by omega) g_deed_names.bg rfl (xa_cons (xe_var 0 (pv 0)) xa_nil))) (xg_name 1 (pg_name kx.nd rfl (by first | exact .inl rfl | exact .inr rfl))) (xss_one (xs_if (xt_not (xt_tru rfl (XE.p (xe_call g_is_name.g kx (by omega) g_is_name.bg rfl (xa_cons (xe_var 1 (pv 1)) xa_nil))))) (xss_one (xs_raise kx (ec_InvalidName B) i1_InvalidName (by omega) i2_InvalidName rfl (mg_InvalidName B) (xe_var 1 (pv 1)))) xss_nil))) (xss_one (xs_ret (xe_var 0 (pv 0)))))))))

/-! ### kept_deeds -/
abbrev N_kept_deeds : List Str := ["deeds", "deed"]
abbrev P_kept_deeds : List Str := ["deeds"]
def p0_kept_deeds (ρ : Rho) (Q : D → Rho → Zs → Prop) (X : Er → Rho → Zs → Prop) (z : Zs) : Prop := (eCall 1 1 0 m_checked_deed gL (aC (eVar 1) aN) aN) ρ Q X z
def s_kept_deeds : E Fl := (sRetO (eLc [1] (eb (eVar 0) fSeqI) (gN 1) (ep true) p0_kept_deeds))
def m_kept_deeds : List D → E0 (List D) := dO 2 s_kept_deeds
theorem me_kept_deeds (a0 : D) (Q : List D → Zs → Prop) (X : Er → Zs → Prop) (z : Zs) : m_kept_deeds [a0] Q X z = s_kept_deeds [Sl.fr a0, Sl.no] (outO Q) (fun e _ z => X e z) z := rfl
theorem sc_kept_deeds : FnScope N_kept_deeds P_kept_deeds (defScope (top 19)) := ⟨rfl, rfl, rfl, by decide +kernel, rfl, by decide +kernel, by decide +kernel⟩
theorem ok_kept_deeds (B : Ctx P w K mg base) : ∃ fd, GFn P w K mg base "kept_deeds" 5 (He.fAd K ("kept_deeds", none)) fd P_kept_deeds (spO K mg 1 m_kept_deeds) := by
  obtain ⟨fd, F⟩ := B.2.2.1.def_ 13 (d := d19) rfl
  obtain ⟨fd_checked_deed, g_checked_deed⟩ := ok_checked_deed B
  refine ⟨fd, ⟨fnO_of (k := 4) F sc_kept_deeds fun cdv A outer s H E pa F0 kx => ?_, mg_kept_deeds B, F.kp, bg_pos (F.bindsN fun _ _ _ _ _ _ us hl => match us, hl with | [_], _ => rfl)⟩⟩
  exact (xss_one (xs_retO (xo_lc (own := [("deed", 1)]) kx (xi_seq rfl (xe_var 0 (pv 0))) (by kernel_rfl) (fun _ _ _ _ _ _ kx => (xg_name 1 (pg_name kx.nd rfl (by first | exact .inl rfl | exact .inr rfl)))) (fun _ _ _ _ _ _ kx => xts_nil) (fun _ _ _ _ _ _ kx => (xe_call g_checked_deed.g kx (by omega) g_checked_deed.bg rfl (xa_cons (xe_var 1 (pv 1)) xa_nil))) (by decide))))

/-! ### Script___init__ -/
abbrev N_Script___init__ : List Str := ["self", "deeds"]
abbrev P_Script___init__ : List Str := ["self", "deeds"]
def s_Script___init__ : E D := (oP (eCall 1 1 0 m_kept_deeds gL (aC (eVar 1) aN) aN))
def m_Script___init__ : List D → E0 (List D) := dN 1 s_Script___init__
theorem me_Script___init__ (a0 : D) (Q : List D → Zs → Prop) (X : Er → Zs → Prop) (z : Zs) : m_Script___init__ [a0] Q X z = s_Script___init__ [Sl.no, Sl.fr a0] (fun d _ z => Q [d] z) (fun e _ z => X e z) z := rfl
theorem sc_Script___init__ : FnScope N_Script___init__ P_Script___init__ (defScope (inClass (top 20) 0)) := ⟨rfl, rfl, rfl, by decide +kernel, rfl, by decide +kernel, by decide +kernel⟩
theorem ok_Script___init__ (B : Ctx P w K mg base) : ∃ fd, GCn P w K mg base "Script" (He.ga K "Script") 6 (He.fAd K ("Script", some "__init__")) fd P_Script___init__ (spN K mg ["kept"] 1 m_Script___init__) ∧ BG K fd P_Script___init__ ["deeds"] 1 gKW gKW := by
  obtain ⟨fd, F⟩ := B.2.2.1.def_ 14 (d := d20_0) rfl
  obtain ⟨fd_kept_deeds, g_kept_deeds⟩ := ok_kept_deeds B
  refine ⟨fd, ⟨fnN1_of (k := 5) (N := N_Script___init__.tail) (ps := P_Script___init__.tail) F sc_Script___init__ rfl (fun cdv A outer s H E => pv 0) (fun cdv A outer s H E => rfl) fun cdv A outer s H E pa F0 a kx => ?_, mg_Script B, mkr_Script B, cls_Script B, bg_pos (F.bindsN fun _ _ _ _ _ _ us hl => match us, hl with | [_, _], _ => rfl)⟩, bg_kwI F fun _ _ _ _ _ _ us ws h1 h2 => match us, ws, h1, h2 with | [_], [_], _, _ => rfl⟩
  exact (XO.fz (xo_call g_kept_deeds.g kx (by omega) g_kept_deeds.bg rfl (xa_cons (xe_var 1 (pv 1)) xa_nil)))

/-! ### Script_deeds -/
abbrev N_Script_deeds : List Str := ["self"]
abbrev P_Script_deeds : List Str := ["self"]
def s_Script_deeds : E Fl := (sRetO (eb (uO (dFld "Script" "kept") (ePk 0)) fList))
def m_Script_deeds : List D → E0 (List D) := dO 1 s_Script_deeds
theorem me_Script_deeds (a0 : D) (Q : List D → Zs → Prop) (X : Er → Zs → Prop) (z : Zs) : m_Script_deeds [a0] Q X z = s_Script_deeds [Sl.fr a0] (outO Q) (fun e _ z => X e z) z := rfl
theorem sc_Script_deeds : FnScope N_Script_deeds P_Script_deeds (defScope (inClass (top 20) 1)) := ⟨rfl, rfl, rfl, by decide +kernel, rfl, by decide +kernel, by decide +kernel⟩
theorem ok_Script_deeds (B : Ctx P w K mg base) : ∃ fd, GMn P w K mg base 1 (getAd K ("Script", some "deeds")) fd P_Script_deeds (spO K mg 1 m_Script_deeds) := by
  obtain ⟨fd, F⟩ := B.2.2.get 0 (d := d20_1) rfl
  have mb_list := mbf_list B
  refine ⟨fd, ⟨fnO_of (k := 0) F sc_Script_deeds fun cdv A outer s H E pa F0 kx => ?_, bg_pos (F.bindsN fun _ _ _ _ _ _ us hl => match us, hl with | [_], _ => rfl)⟩⟩
  exact (xss_one (xs_retO (xo_list kx rfl mb_list (XE.p (xe_fld kx (mg_Script B) (cls_Script B) (noat_Script B "kept" (by simp)) (xp_var 0 (pv 0)))))))

/-! ### checked_opening -/
abbrev N_checked_opening : List Str := ["opening"]
abbrev P_checked_opening : List Str := ["opening"]
def s_checked_opening : E Fl := (sSeq (sIf (tN (tV (eCall 1 1 0 m_is_opening gL (aC (eVar 0) aN) aN)))
    (sRaise "InvalidFraction" (eVar 0))
    (ep .nx))
    (sRet (eVar 0)))
def m_checked_opening : List D → E0 D := dF 1 s_checked_opening
theorem me_checked_opening (a0 : D) (Q : D → Zs → Prop) (X : Er → Zs → Prop) (z : Zs) : m_checked_opening [a0] Q X z = s_checked_opening [Sl.fr a0] (outF Q) (fun e _ z => X e z) z := rfl
theorem sc_checked_opening : FnScope N_checked_opening P_checked_opening (defScope (top 24)) := ⟨rfl, rfl, rfl, by decide +kernel, rfl, by decide +kernel, by decide +kernel⟩
theorem ok_checked_opening (B : Ctx P w K mg base) : ∃ fd, GFn P w K mg base "checked_opening" 4 (He.fAd K ("checked_opening", none)) fd P_checked_opening (spF K mg 1 m_checked_opening) := by
  obtain ⟨fd, F⟩ := B.2.2.1.def_ 24 (d := d24) rfl
  obtain ⟨fd_is_opening, g_is_opening⟩ := ok_is_opening B
  obtain ⟨fI_InvalidFraction, i1_InvalidFraction, i2_InvalidFraction⟩ := ini_InvalidFraction B
  refine ⟨fd, ⟨fnF_of (k := 3) F sc_checked_opening fun cdv A outer s H E pa F0 kx => ?_, mg_checked_opening B, F.kp, bg_pos (F.bindsN fun _ _ _ _ _ _ us hl => match us, hl with | [_], _ => rfl)⟩⟩
  exact (xss_cons (xs_if (xt_not (xt_tru rfl (XE.p (xe_call g_is_opening.g kx (by omega) g_is_opening.bg rfl (xa_cons (xe_var 0 (pv 0)) xa_nil))))) (xss_one (xs_raise kx (ec_InvalidFraction B) i1_InvalidFraction (by omega) i2_InvalidFraction rfl (mg_InvalidFraction B) (xe_var 0 (pv 0)))) xss_nil) (xss_one (xs_ret (xe_var 0 (pv 0)))))

/-! ### state_begun -/
abbrev N_state_begun : List Str := ["opening"]
abbrev P_state_begun : List Str := ["opening"]
def s_state_begun : E Fl := (sRet (eTup (aC (eVar 0) (aC (ep (D.tup [(D.int 0), (D.int 1)])) (aC (ep (.bl true)) (aC (eTup aN) (aC (eTup aN) aN)))))))
def m_state_begun : List D → E0 D := dF 1 s_state_begun
theorem me_state_begun (a0 : D) (Q : D → Zs → Prop) (X : Er → Zs → Prop) (z : Zs) : m_state_begun [a0] Q X z = s_state_begun [Sl.fr a0] (outF Q) (fun e _ z => X e z) z := rfl
theorem sc_state_begun : FnScope N_state_begun P_state_begun (defScope (top 25)) := ⟨rfl, rfl, rfl, by decide +kernel, rfl, by decide +kernel, by decide +kernel⟩
theorem ok_state_begun (B : Ctx P w K mg base) : ∃ fd, GFn P w K mg base "state_begun" 1 (He.fAd K ("state_begun", none)) fd P_state_begun (spF K mg 1 m_state_begun) := by
  obtain ⟨fd, F⟩ := B.2.2.1.def_ 25 (d := d25) rfl
  refine ⟨fd, ⟨fnF_of (k := 0) F sc_state_begun fun cdv A outer s H E pa F0 kx => ?_, mg_state_begun B, F.kp, bg_pos (F.bindsN fun _ _ _ _ _ _ us hl => match us, hl with | [_], _ => rfl)⟩⟩
  exact (xss_one (xs_ret (xe_tup (xa_cons (xe_var 0 (pv 0)) (xa_cons (xe_gtup (y := "LEFT_END") rfl rfl (mg_LEFT_END B) (con_LEFT_END B)) (xa_cons xe_bl (xa_cons (xe_tup xa_nil) (xa_cons (xe_tup xa_nil) xa_nil))))))))

/-! ### state_gap -/
abbrev N_state_gap : List Str := ["state", "above", "below"]
abbrev P_state_gap : List Str := ["state"]
def s_state_gap : E Fl := (sSeq (sAsg (bO dIx (ePk 0) (ep (.int 1))) (gTp 2 (gCn (gN 1) (gCn (gN 2) gNl))))
    (sRet (eIf (tV (bO dIx (ePk 0) (ep (.int 2)))) (eTup (aC (bO dSub (ePk 2) (ePk 1)) (aC (eVar 2) aN))) (eTup (aC (eVar 1) (aC (eVar 2) aN))))))
def m_state_gap : List D → E0 D := dF 3 s_state_gap
theorem me_state_gap (a0 : D) (Q : D → Zs → Prop) (X : Er → Zs → Prop) (z : Zs) : m_state_gap [a0] Q X z = s_state_gap [Sl.fr a0, Sl.no, Sl.no] (outF Q) (fun e _ z => X e z) z := rfl
theorem sc_state_gap : FnScope N_state_gap P_state_gap (defScope (top 26)) := ⟨rfl, rfl, rfl, by decide +kernel, rfl, by decide +kernel, by decide +kernel⟩
theorem ok_state_gap (B : Ctx P w K mg base) : ∃ fd, GFn P w K mg base "state_gap" 1 (He.fAd K ("state_gap", none)) fd P_state_gap (spF K mg 1 m_state_gap) := by
  obtain ⟨fd, F⟩ := B.2.2.1.def_ 26 (d := d26) rfl
  refine ⟨fd, ⟨fnF_of (k := 0) F sc_state_gap fun cdv A outer s H E pa F0 kx => ?_, mg_state_gap B, F.kp, bg_pos (F.bindsN fun _ _ _ _ _ _ us hl => match us, hl with | [_], _ => rfl)⟩⟩
  exact (xss_cons (xs_asg (xe_ix rfl (xp_var 0 (pv 0)) (XE.p xe_int) (fun _ _ => rfl)) (xg_tup rfl kx.calm (xgs_cons (xg_name 1 (pg_name kx.nd rfl (by first | exact .inl rfl | exact .inr rfl))) (xgs_cons (xg_name 2 (pg_name kx.nd rfl (by first | exact .inl rfl | exact .inr rfl))) xgs_nil)))) (xss_one (xs_ret (xe_if (xt_tru rfl (XE.p (xe_ix rfl (xp_var 0 (pv 0)) (XE.p xe_int) (fun _ _ => rfl)))) (xe_tup (xa_cons (xe_op op_sub (o_sub) (xp_var 2 (pv 2)) (xp_var 1 (pv 1))) (xa_cons (xe_var 2 (pv 2)) xa_nil))) (xe_tup (xa_cons (xe_var 1 (pv 1)) (xa_cons (xe_var 2 (pv 2)) xa_nil)))))))

/-! ### state_fits -/
abbrev N_state_fits : List Str := ["state", "above", "below"]
abbrev P_state_fits : List Str := ["state"]
def s_state_fits : E Fl := (sSeq (sAsg (eCall 1 1 0 m_state_gap gL (aC (eVar 0) aN) aN) (gTp 2 (gCn (gN 1) (gCn (gN 2) gNl))))
    (sRet (bO dDiv (bO dMul (ePk 1) (bO dIx (bO dIx (ePk 0) (ep (.int 0))) (ep (.int 1)))) (bO dMul (ePk 2) (bO dIx (bO dIx (ePk 0) (ep (.int 0))) (ep (.int 0)))))))
def m_state_fits : List D → E0 D := dF 3 s_state_fits
theorem me_state_fits (a0 : D) (Q : D → Zs → Prop) (X : Er → Zs → Prop) (z : Zs) : m_state_fits [a0] Q X z = s_state_fits [Sl.fr a0, Sl.no, Sl.no] (outF Q) (fun e _ z => X e z) z := rfl
theorem sc_state_fits : FnScope N_state_fits P_state_fits (defScope (top 27)) := ⟨rfl, rfl, rfl, by decide +kernel, rfl, by decide +kernel, by decide +kernel⟩
theorem ok_state_fits (B : Ctx P w K mg base) : ∃ fd, GFn P w K mg base "state_fits" 2 (He.fAd K ("state_fits", none)) fd P_state_fits (spF K mg 1 m_state_fits) := by
  obtain ⟨fd, F⟩ := B.2.2.1.def_ 27 (d := d27) rfl
  obtain ⟨fd_state_gap, g_state_gap⟩ := ok_state_gap B
  refine ⟨fd, ⟨fnF_of (k := 1) F sc_state_fits fun cdv A outer s H E pa F0 kx => ?_, mg_state_fits B, F.kp, bg_pos (F.bindsN fun _ _ _ _ _ _ us hl => match us, hl with | [_], _ => rfl)⟩⟩
  exact (xss_cons (xs_asg (xe_call g_state_gap.g kx (by omega) g_state_gap.bg rfl (xa_cons (xe_var 0 (pv 0)) xa_nil)) (xg_tup rfl kx.calm (xgs_cons (xg_name 1 (pg_name kx.nd rfl (by first | exact .inl rfl | exact .inr rfl))) (xgs_cons (xg_name 2 (pg_name kx.nd rfl (by first | exact .inl rfl | exact .inr rfl))) xgs_nil)))) (xss_one (xs_ret (xe_op op_divG (o_div) (XE.p (xe_op op_mulG (o_mul) (xp_var 1 (pv 1)) (XE.p (xe_ix rfl (XE.p (xe_ix rfl (xp_var 0 (pv 0)) (XE.p xe_int) (fun _ _ => rfl))) (XE.p xe_int) (fun _ _ => rfl))))) (XE.p (xe_op op_mulG (o_mul) (xp_var 2 (pv 2)) (XE.p (xe_ix rfl (XE.p (xe_ix rfl (xp_var 0 (pv 0)) (XE.p xe_int) (fun _ _ => rfl))) (XE.p xe_int) (fun _ _ => rfl)))))))))

/-! ### state_moved -/
abbrev N_state_moved : List Str := ["state", "number", "way", "above", "opening", "point", "rightward", "marks", "counts"]
abbrev P_state_moved : List Str := ["state", "number"]
def s_state_moved : E Fl := (sSeq (sAsg (eVar 0) (gTp 5 (gCn (gN 4) (gCn (gN 5) (gCn (gN 6) (gCn (gN 7) (gCn (gN 8) gNl)))))))
    (sSeq (sAsg (eIf (tV (ePk 6)) (eVar 1) (uO dNeg (ePk 1))) (gN 2))
    (sSeq (sAsg (bO dAdd (bO dMul (bO dIx (ePk 5) (ep (.int 0))) (bO dIx (ePk 4) (ep (.int 1)))) (bO dMul (bO dMul (ePk 2) (bO dIx (ePk 4) (ep (.int 0)))) (bO dIx (ePk 5) (ep (.int 1))))) (gN 3))
    (sRet (eTup (aC (eVar 4) (aC (eCall 2 2 0 m_fraction gL (aC (eVar 3) (aC (bO dMul (bO dIx (ePk 5) (ep (.int 1))) (bO dIx (ePk 4) (ep (.int 1)))) aN)) aN) (aC (eVar 6) (aC (eVar 7) (aC (eVar 8) aN))))))))))
def m_state_moved : List D → E0 D := dF 9 s_state_moved
theorem me_state_moved (a0 a1 : D) (Q : D → Zs → Prop) (X : Er → Zs → Prop) (z : Zs) : m_state_moved [a0, a1] Q X z = s_state_moved [Sl.fr a0, Sl.fr a1, Sl.no, Sl.no, Sl.no, Sl.no, Sl.no, Sl.no, Sl.no] (outF Q) (fun e _ z => X e z) z := rfl
theorem sc_state_moved : FnScope N_state_moved P_state_moved (defScope (top 28)) := ⟨rfl, rfl, rfl, by decide +kernel, rfl, by decide +kernel, by decide +kernel⟩
theorem ok_state_moved (B : Ctx P w K mg base) : ∃ fd, GFn P w K mg base "state_moved" 5 (He.fAd K ("state_moved", none)) fd P_state_moved (spF K mg 2 m_state_moved) := by
  obtain ⟨fd, F⟩ := B.2.2.1.def_ 28 (d := d28) rfl
  obtain ⟨fd_fraction, g_fraction⟩ := ok_fraction B
  refine ⟨fd, ⟨fnF_of (k := 4) F sc_state_moved fun cdv A outer s H E pa F0 kx => ?_, mg_state_moved B, F.kp, bg_pos (F.bindsN fun _ _ _ _ _ _ us hl => match us, hl with | [_, _], _ => rfl)⟩⟩
  exact (xss_cons (xs_asg (xe_var 0 (pv 0)) (xg_tup rfl kx.calm (xgs_cons (xg_name 4 (pg_name kx.nd rfl (by first | exact .inl rfl | exact .inr rfl))) (xgs_cons (xg_name 5 (pg_name kx.nd rfl (by first | exact .inl rfl | exact .inr rfl))) (xgs_cons (xg_name 6 (pg_name kx.nd rfl (by first | exact .inl rfl | exact .inr rfl))) (xgs_cons (xg_name 7 (pg_name kx.nd rfl (by first | exact .inl rfl | exact .inr rfl))) (xgs_cons (xg_name 8 (pg_name kx.nd rfl (by first | exact .inl rfl | exact .inr rfl))) xgs_nil))))))) (xss_cons (xs_set 2 (xe_if (xt_tru rfl (xp_var 6 (pv 6))) (xe_var 1 (pv 1)) (xe_neg (xp_var 1 (pv 1)))) kx.nd rfl (by first | exact .inl rfl | exact .inr rfl)) (xss_cons (xs_set 3 (xe_op op_add4 (o_add) (XE.p (xe_op op_mulG (o_mul) (XE.p (xe_ix rfl (xp_var 5 (pv 5)) (XE.p xe_int) (fun _ _ => rfl))) (XE.p (xe_ix rfl (xp_var 4 (pv 4)) (XE.p xe_int) (fun _ _ => rfl))))) (XE.p (xe_op op_mulG (o_mul) (XE.p (xe_op op_mulG (o_mul) (xp_var 2 (pv 2)) (XE.p (xe_ix rfl (xp_var 4 (pv 4)) (XE.p xe_int) (fun _ _ => rfl))))) (XE.p (xe_ix rfl (xp_var 5 (pv 5)) (XE.p xe_int) (fun _ _ => rfl)))))) kx.nd rfl (by first | exact .inl rfl | exact .inr rfl)) (xss_one (xs_ret (xe_tup (xa_cons (xe_var 4 (pv 4)) (xa_cons (xe_call g_fraction.g kx (by omega) g_fraction.bg rfl (xa_cons (xe_var 3 (pv 3)) (xa_cons (xe_op op_mulG (o_mul) (XE.p (xe_ix rfl (xp_var 5 (pv 5)) (XE.p xe_int) (fun _ _ => rfl))) (XE.p (xe_ix rfl (xp_var 4 (pv 4)) (XE.p xe_int) (fun _ _ => rfl)))) xa_nil))) (xa_cons (xe_var 6 (pv 6)) (xa_cons (xe_var 7 (pv 7)) (xa_cons (xe_var 8 (pv 8)) xa_nil)))))))))))

/-! ### state_set -/
abbrev N_state_set : List Str := ["state", "width"]
abbrev P_state_set : List Str := ["state", "width"]
def s_state_set : E Fl := (sSeq (sIf (eT (bO dEq (bO dIx (ePk 1) (ep (.int 0))) (ep (.int 0))))
    (sRet (eTup (aC (eVar 0) (aC (ep .non) (aC (ep (.str "nothing")) aN)))))
    (ep .nx))
    (sRet (eTup (aC (bO dAdd (eTup (aC (eVar 1) aN)) (eb (ePk 0) fun d => eb (eb (ep (.int 1)) fPart) fun lo => eb (ep none) fun hi => fSlE d lo hi)) (aC (ep .non) (aC (ep .non) aN))))))
def m_state_set : List D → E0 D := dF 2 s_state_set
theorem me_state_set (a0 a1 : D) (Q : D → Zs → Prop) (X : Er → Zs → Prop) (z : Zs) : m_state_set [a0, a1] Q X z = s_state_set [Sl.fr a0, Sl.fr a1] (outF Q) (fun e _ z => X e z) z := rfl
theorem sc_state_set : FnScope N_state_set P_state_set (defScope (top 29)) := ⟨rfl, rfl, rfl, by decide +kernel, rfl, by decide +kernel, by decide +kernel⟩
theorem ok_state_set (B : Ctx P w K mg base) : ∃ fd, GFn P w K mg base "state_set" 1 (He.fAd K ("state_set", none)) fd P_state_set (spF K mg 2 m_state_set) := by
  obtain ⟨fd, F⟩ := B.2.2.1.def_ 29 (d := d29) rfl
  refine ⟨fd, ⟨fnF_of (k := 0) F sc_state_set fun cdv A outer s H E pa F0 kx => ?_, mg_state_set B, F.kp, bg_pos (F.bindsN fun _ _ _ _ _ _ us hl => match us, hl with | [_, _], _ => rfl)⟩⟩
  exact (xss_cons (xs_if (xt_cmp (op_eq2 kx.hu) o_eq (XE.p (xe_ix rfl (xp_var 1 (pv 1)) (XE.p xe_int) (fun _ _ => rfl))) (XE.p xe_int) rfl) (xss_one (xs_ret (xe_tup (xa_cons (xe_var 0 (pv 0)) (xa_cons xe_non (xa_cons xe_str xa_nil)))))) xss_nil) (xss_one (xs_ret (xe_tup (xa_cons (xe_op op_add4 (o_add) (XE.p (xe_tup (xa_cons (xe_var 1 (pv 1)) xa_nil))) (XE.p (xe_slice rfl (xp_var 0 (pv 0)) (xpt_some (XE.p xe_int)) xpt_none))) (xa_cons xe_non (xa_cons xe_non xa_nil)))))))

/-! ### place_of -/
abbrev N_place_of : List Str := ["state", "name", "known", "place"]
abbrev P_place_of : List Str := ["state", "name"]
def p0_place_of (ρ : Rho) (Q : Fl → Rho → Zs → Prop) (X : Er → Rho → Zs → Prop) (z : Zs) : Prop := (sIf (eT (bO dEq (ePk 2) (ePk 1)))
    (sRet (eVar 3))
    (ep .nx)) ρ Q X z
def s_place_of : E Fl := (sSeq (sFor (eb (bO dIx (ePk 0) (ep (.int 3))) fSeqI) (gTp 2 (gCn (gN 2) (gCn (gN 3) gNl))) p0_place_of)
    (sRet (ep .non)))
def m_place_of : List D → E0 D := dF 4 s_place_of
theorem me_place_of (a0 a1 : D) (Q : D → Zs → Prop) (X : Er → Zs → Prop) (z : Zs) : m_place_of [a0, a1] Q X z = s_place_of [Sl.fr a0, Sl.fr a1, Sl.no, Sl.no] (outF Q) (fun e _ z => X e z) z := rfl
theorem sc_place_of : FnScope N_place_of P_place_of (defScope (top 30)) := ⟨rfl, rfl, rfl, by decide +kernel, rfl, by decide +kernel, by decide +kernel⟩
theorem ok_place_of (B : Ctx P w K mg base) : ∃ fd, GFn P w K mg base "place_of" 1 (He.fAd K ("place_of", none)) fd P_place_of (spF K mg 2 m_place_of) := by
  obtain ⟨fd, F⟩ := B.2.2.1.def_ 30 (d := d30) rfl
  refine ⟨fd, ⟨fnF_of (k := 0) F sc_place_of fun cdv A outer s H E pa F0 kx => ?_, mg_place_of B, F.kp, bg_pos (F.bindsN fun _ _ _ _ _ _ us hl => match us, hl with | [_, _], _ => rfl)⟩⟩
  exact (xss_cons (xs_for kx (xi_seq rfl (xe_ix rfl (xp_var 0 (pv 0)) (XE.p xe_int) (fun _ _ => rfl))) (xg_tup rfl kx.calm (xgs_cons (xg_name 2 (pg_name kx.nd rfl (by first | exact .inl rfl | exact .inr rfl))) (xgs_cons (xg_name 3 (pg_name kx.nd rfl (by first | exact .inl rfl | exact .inr rfl))) xgs_nil))) (xss_one (xs_if (xt_cmp (op_eq2 kx.hu) o_eq (xp_var 2 (pv 2)) (xp_var 1 (pv 1)) rfl) (xss_one (xs_ret (xe_var 3 (pv 3)))) xss_nil))) (xss_one (xs_ret xe_non)))

/-! ### distance -/
abbrev N_distance : List Str := ["one", "other", "above"]
abbrev P_distance : List Str := ["one", "other"]
def s_distance : E Fl := (sSeq (sAsg (bO dSub (bO dMul (bO dIx (ePk 0) (ep (.int 0))) (bO dIx (ePk 1) (ep (.int 1)))) (bO dMul (bO dIx (ePk 1) (ep (.int 0))) (bO dIx (ePk 0) (ep (.int 1))))) (gN 2))
    (sRet (eCall 2 2 0 m_fraction gL (aC (uO dAbs (ePk 2)) (aC (bO dMul (bO dIx (ePk 0) (ep (.int 1))) (bO dIx (ePk 1) (ep (.int 1)))) aN)) aN)))
def m_distance : List D → E0 D := dF 3 s_distance
theorem me_distance (a0 a1 : D) (Q : D → Zs → Prop) (X : Er → Zs → Prop) (z : Zs) : m_distance [a0, a1] Q X z = s_distance [Sl.fr a0, Sl.fr a1, Sl.no] (outF Q) (fun e _ z => X e z) z := rfl
theorem sc_distance : FnScope N_distance P_distance (defScope (top 31)) := ⟨rfl, rfl, rfl, by decide +kernel, rfl, by decide +kernel, by decide +kernel⟩
theorem ok_distance (B : Ctx P w K mg base) : ∃ fd, GFn P w K mg base "distance" 5 (He.fAd K ("distance", none)) fd P_distance (spF K mg 2 m_distance) := by
  obtain ⟨fd, F⟩ := B.2.2.1.def_ 31 (d := d31) rfl
  obtain ⟨fd_fraction, g_fraction⟩ := ok_fraction B
  have mb_abs := mbf_abs B
  refine ⟨fd, ⟨fnF_of (k := 4) F sc_distance fun cdv A outer s H E pa F0 kx => ?_, mg_distance B, F.kp, bg_pos (F.bindsN fun _ _ _ _ _ _ us hl => match us, hl with | [_, _], _ => rfl)⟩⟩
  exact (xss_cons (xs_set 2 (xe_op op_sub (o_sub) (XE.p (xe_op op_mulG (o_mul) (XE.p (xe_ix rfl (xp_var 0 (pv 0)) (XE.p xe_int) (fun _ _ => rfl))) (XE.p (xe_ix rfl (xp_var 1 (pv 1)) (XE.p xe_int) (fun _ _ => rfl))))) (XE.p (xe_op op_mulG (o_mul) (XE.p (xe_ix rfl (xp_var 1 (pv 1)) (XE.p xe_int) (fun _ _ => rfl))) (XE.p (xe_ix rfl (xp_var 0 (pv 0)) (XE.p xe_int) (fun _ _ => rfl)))))) kx.nd rfl (by first | exact .inl rfl | exact .inr rfl)) (xss_one (xs_ret (xe_call g_fraction.g kx (by omega) g_fraction.bg rfl (xa_cons (xe_abs rfl mb_abs (xp_var 2 (pv 2))) (xa_cons (xe_op op_mulG (o_mul) (XE.p (xe_ix rfl (xp_var 0 (pv 0)) (XE.p xe_int) (fun _ _ => rfl))) (XE.p (xe_ix rfl (xp_var 1 (pv 1)) (XE.p xe_int) (fun _ _ => rfl)))) xa_nil))))))

/-! ### state_spanned -/
abbrev N_state_spanned : List Str := ["state", "deed", "name"]
abbrev P_state_spanned : List Str := ["state", "deed"]
def p0_state_spanned (ρ : Rho) (Q : Fl → Rho → Zs → Prop) (X : Er → Rho → Zs → Prop) (z : Zs) : Prop := (sIf (eT (bO dIsN (eCall 2 2 0 m_place_of gL (aC (eVar 0) (aC (eVar 2) aN)) aN) (ep .non)))
    (sRet (eTup (aC (eVar 0) (aC (ep .non) (aC (eTup (aC (ep (.str "unmarked")) (aC (eVar 2) aN))) aN)))))
    (ep .nx)) ρ Q X z
def s_state_spanned : E Fl := (sSeq (sFor (eb (eb (ePk 1) fun d => eb (eb (ep (.int 1)) fPart) fun lo => eb (ep none) fun hi => fSlE d lo hi) fSeqI) (gN 2) p0_state_spanned)
    (sRet (eCall 2 2 0 m_state_set gL (aC (eVar 0) (aC (eCall 2 2 0 m_distance gL (aC (eCall 2 2 0 m_place_of gL (aC (eVar 0) (aC (bO dIx (ePk 1) (ep (.int 1))) aN)) aN) (aC (eCall 2 2 0 m_place_of gL (aC (eVar 0) (aC (bO dIx (ePk 1) (ep (.int 2))) aN)) aN) aN)) aN) aN)) aN)))
def m_state_spanned : List D → E0 D := dF 3 s_state_spanned
theorem me_state_spanned (a0 a1 : D) (Q : D → Zs → Prop) (X : Er → Zs → Prop) (z : Zs) : m_state_spanned [a0, a1] Q X z = s_state_spanned [Sl.fr a0, Sl.fr a1, Sl.no] (outF Q) (fun e _ z => X e z) z := rfl
theorem sc_state_spanned : FnScope N_state_spanned P_state_spanned (defScope (top 32)) := ⟨rfl, rfl, rfl, by decide +kernel, rfl, by decide +kernel, by decide +kernel⟩
theorem ok_state_spanned (B : Ctx P w K mg base) : ∃ fd, GFn P w K mg base "state_spanned" 6 (He.fAd K ("state_spanned", none)) fd P_state_spanned (spF K mg 2 m_state_spanned) := by
  obtain ⟨fd, F⟩ := B.2.2.1.def_ 32 (d := d32) rfl
  obtain ⟨fd_state_set, g_state_set⟩ := ok_state_set B
  obtain ⟨fd_distance, g_distance⟩ := ok_distance B
  obtain ⟨fd_place_of, g_place_of⟩ := ok_place_of B
  refine ⟨fd, ⟨fnF_of (k := 5) F sc_state_spanned fun cdv A outer s H E pa F0 kx => ?_, mg_state_spanned B, F.kp, bg_pos (F.bindsN fun _ _ _ _ _ _ us hl => match us, hl with | [_, _], _ => rfl)⟩⟩
  exact (xss_cons (xs_for kx (xi_seq rfl (xe_slice rfl (xp_var 1 (pv 1)) (xpt_some (XE.p xe_int)) xpt_none)) (xg_name 2 (pg_name kx.nd rfl (by first | exact .inl rfl | exact .inr rfl))) (xss_one (xs_if (xt_cmp op_isN o_isN (XE.p (xe_call g_place_of.g kx (by omega) g_place_of.bg rfl (xa_cons (xe_var 0 (pv 0)) (xa_cons (xe_var 2 (pv 2)) xa_nil)))) (XE.p xe_non) rfl) (xss_one (xs_ret (xe_tup (xa_cons (xe_var 0 (pv 0)) (xa_cons xe_non (xa_cons (xe_tup (xa_cons xe_str (xa_cons (xe_var 2 (pv 2)) xa_nil))) xa_nil)))))) xss_nil))) (xss_one (xs_ret (xe_call g_state_set.g kx (by omega) g_state_set.bg rfl (xa_cons (xe_var 0 (pv 0)) (xa_cons (xe_call g_distance.g kx (by omega) g_distance.bg rfl (xa_cons (xe_call g_place_of.g kx (by omega) g_place_of.bg rfl (xa_cons (xe_var 0 (pv 0)) (xa_cons (xe_ix rfl (xp_var 1 (pv 1)) (XE.p xe_int) (fun _ _ => rfl)) xa_nil))) (xa_cons (xe_call g_place_of.g kx (by omega) g_place_of.bg rfl (xa_cons (xe_var 0 (pv 0)) (xa_cons (xe_ix rfl (xp_var 1 (pv 1)) (XE.p xe_int) (fun _ _ => rfl)) xa_nil))) xa_nil))) xa_nil))))))

/-! ### state_marked -/
abbrev N_state_marked : List Str := ["state", "name", "others", "opening", "point", "rightward", "marks", "counts", "pair"]
abbrev P_state_marked : List Str := ["state", "name"]
def p0_state_marked (ρ : Rho) (Q : D → Rho → Zs → Prop) (X : Er → Rho → Zs → Prop) (z : Zs) : Prop := (eVar 8) ρ Q X z
def p1_state_marked (ρ : Rho) (Q : Bool → Rho → Zs → Prop) (X : Er → Rho → Zs → Prop) (z : Zs) : Prop := (eT (bO dNe (bO dIx (ePk 8) (ep (.int 0))) (ePk 1))) ρ Q X z
def s_state_marked : E Fl := (sSeq (sAsg (eVar 0) (gTp 5 (gCn (gN 3) (gCn (gN 4) (gCn (gN 5) (gCn (gN 6) (gCn (gN 7) gNl)))))))
    (sSeq (sAsgO (eLc [8] (eb (eVar 6) fSeqI) (gN 8) p1_state_marked p0_state_marked) 2)
    (sRet (eTup (aC (eVar 3) (aC (eVar 4) (aC (eVar 5) (aC (eb (oP (eb (oP (bC (ePk 2) (oP (eLst (aC (eTup (aC (eVar 1) (aC (eVar 4) aN))) aN))))) fSortD)) fTuple) (aC (eVar 7) aN)))))))))
def m_state_marked : List D → E0 D := dF 9 s_state_marked
theorem me_state_marked (a0 a1 : D) (Q : D → Zs → Prop) (X : Er → Zs → Prop) (z : Zs) : m_state_marked [a0, a1] Q X z = s_state_marked [Sl.fr a0, Sl.fr a1, Sl.no, Sl.no, Sl.no, Sl.no, Sl.no, Sl.no, Sl.no] (outF Q) (fun e _ z => X e z) z := rfl
theorem sc_state_marked : FnScope N_state_marked P_state_marked (defScope (top 33)) := ⟨rfl, rfl, rfl, by decide +kernel, rfl, by decide +kernel, by decide +kernel⟩
theorem ok_state_marked (B : Ctx P w K mg base) : ∃ fd, GFn P w K mg base "state_marked" 1 (He.fAd K ("state_marked", none)) fd P_state_marked (spF K mg 2 m_state_marked) := by
  obtain ⟨fd, F⟩ := B.2.2.1.def_ 33 (d := d33) rfl
  have mb_sorted := mbf_sorted B
  have mb_tuple := mbf_tuple B
  refine ⟨fd, ⟨fnF_of (k := 0) F sc_state_marked fun cdv A outer s H E pa F0 kx => ?_, mg_state_marked B, F.kp, bg_pos (F.bindsN fun _ _ _ _ _ _ us hl => match us, hl with | [_, _], _ => rfl)⟩⟩
  exact (xss_cons (xs_asg (xe_var 0 (pv 0)) (xg_tup rfl kx.calm (xgs_cons (xg_name 3 (pg_name kx.nd rfl (by first | exact .inl rfl | exact .inr rfl))) (xgs_cons (xg_name 4 (pg_name kx.nd rfl (by first | exact .inl rfl | exact .inr rfl))) (xgs_cons (xg_name 5 (pg_name kx.nd rfl (by first | exact .inl rfl | exact .inr rfl))) (xgs_cons (xg_name 6 (pg_name kx.nd rfl (by first | exact .inl rfl | exact .inr rfl))) (xgs_cons (xg_name 7 (pg_name kx.nd rfl (by first | exact .inl rfl | exact .inr rfl))) xgs_nil))))))) (xss_cons (xs_setLcO 2 (own := [("pair", 8)]) kx rfl rfl (xi_seq rfl (xe_var 6 (pv 6))) (by kernel_rfl) (fun _ _ _ _ _ _ kx => (xg_name 8 (pg_name kx.nd rfl (by first | exact .inl rfl | exact .inr rfl)))) (fun _ _ _ _ _ _ kx => (xts_one (xt_cmp (op_ne2 kx.hu) o_ne (XE.p (xe_ix rfl (xp_var 8 (pv 8)) (XE.p xe_int) (fun _ _ => rfl))) (xp_var 1 (pv 1)) rfl))) (fun _ _ _ _ _ _ kx => (xe_var 8 (pv 8))) (by decide) rfl) (xss_one (xs_ret (xe_tup (xa_cons (xe_var 3 (pv 3)) (xa_cons (xe_var 4 (pv 4)) (xa_cons (xe_var 5 (pv 5)) (xa_cons (xe_tuple kx rfl mb_tuple (XO.p (xo_sortD kx rfl mb_sorted (XO.p (xo_op op_add4 o_cat (xp_var 2 (pv 2)) (XO.p (xo_lst (xa_cons (xe_tup (xa_cons (xe_var 1 (pv 1)) (xa_cons (xe_var 4 (pv 4)) xa_nil))) xa_nil)))))))) (xa_cons (xe_var 7 (pv 7)) xa_nil))))))))))

/-! ### act_on_marks -/
abbrev N_act_on_marks : List Str := ["state", "deed", "place"]
abbrev P_act_on_marks : List Str := ["state", "deed"]
def s_act_on_marks : E Fl := (sSeq (sIf (eT (bO dEq (bO dIx (ePk 1) (ep (.int 0))) (ep (.str "span"))))
    (sRet (eCall 2 2 0 m_state_spanned gL (aC (eVar 0) (aC (eVar 1) aN)) aN))
    (ep .nx))
    (sSeq (sIf (eT (bO dEq (bO dIx (ePk 1) (ep (.int 0))) (ep (.str "mark"))))
    (sRet (eTup (aC (eCall 2 2 0 m_state_marked gL (aC (eVar 0) (aC (bO dIx (ePk 1) (ep (.int 1))) aN)) aN) (aC (ep .non) (aC (ep .non) aN)))))
    (ep .nx))
    (sSeq (sAsg (eCall 2 2 0 m_place_of gL (aC (eVar 0) (aC (bO dIx (ePk 1) (ep (.int 1))) aN)) aN) (gN 2))
    (sSeq (sIf (eT (bO dIsN (ePk 2) (ep .non)))
    (sRet (eTup (aC (eVar 0) (aC (ep .non) (aC (eTup (aC (ep (.str "unmarked")) (aC (bO dIx (ePk 1) (ep (.int 1))) aN))) aN)))))
    (ep .nx))
    (sRet (eTup (aC (bO dAdd (eTup (aC (bO dIx (ePk 0) (ep (.int 0))) (aC (eVar 2) aN))) (eb (ePk 0) fun d => eb (eb (ep (.int 2)) fPart) fun lo => eb (ep none) fun hi => fSlE d lo hi)) (aC (ep .non) (aC (ep .non) aN)))))))))
def m_act_on_marks : List D → E0 D := dF 3 s_act_on_marks
theorem me_act_on_marks (a0 a1 : D) (Q : D → Zs → Prop) (X : Er → Zs → Prop) (z : Zs) : m_act_on_marks [a0, a1] Q X z = s_act_on_marks [Sl.fr a0, Sl.fr a1, Sl.no] (outF Q) (fun e _ z => X e z) z := rfl
theorem sc_act_on_marks : FnScope N_act_on_marks P_act_on_marks (defScope (top 34)) := ⟨rfl, rfl, rfl, by decide +kernel, rfl, by decide +kernel, by decide +kernel⟩
theorem ok_act_on_marks (B : Ctx P w K mg base) : ∃ fd, GFn P w K mg base "act_on_marks" 7 (He.fAd K ("act_on_marks", none)) fd P_act_on_marks (spF K mg 2 m_act_on_marks) := by
  obtain ⟨fd, F⟩ := B.2.2.1.def_ 34 (d := d34) rfl
  obtain ⟨fd_place_of, g_place_of⟩ := ok_place_of B
  obtain ⟨fd_state_marked, g_state_marked⟩ := ok_state_marked B
  obtain ⟨fd_state_spanned, g_state_spanned⟩ := ok_state_spanned B
  refine ⟨fd, ⟨fnF_of (k := 6) F sc_act_on_marks fun cdv A outer s H E pa F0 kx => ?_, mg_act_on_marks B, F.kp, bg_pos (F.bindsN fun _ _ _ _ _ _ us hl => match us, hl with | [_, _], _ => rfl)⟩⟩
  exact (xss_cons (xs_if (xt_cmp (op_eq2 kx.hu) o_eq (XE.p (xe_ix rfl (xp_var 1 (pv 1)) (XE.p xe_int) (fun _ _ => rfl))) (XE.p xe_str) rfl) (xss_one (xs_ret (xe_call g_state_spanned.g kx (by omega) g_state_spanned.bg rfl (xa_cons (xe_var 0 (pv 0)) (xa_cons (xe_var 1 (pv 1)) xa_nil))))) xss_nil) (xss_cons (xs_if (xt_cmp (op_eq2 kx.hu) o_eq (XE.p (xe_ix rfl (xp_var 1 (pv 1)) (XE.p xe_int) (fun _ _ => rfl))) (XE.p xe_str) rfl) (xss_one (xs_ret (xe_tup (xa_cons (xe_call g_state_marked.g kx (by omega) g_state_marked.bg rfl (xa_cons (xe_var 0 (pv 0)) (xa_cons (xe_ix rfl (xp_var 1 (pv 1)) (XE.p xe_int) (fun _ _ => rfl)) xa_nil))) (xa_cons xe_non (xa_cons xe_non xa_nil)))))) xss_nil) (xss_cons (xs_set 2 (xe_call g_place_of.g kx (by omega) g_place_of.bg rfl (xa_cons (xe_var 0 (pv 0)) (xa_cons (xe_ix rfl (xp_var 1 (pv 1)) (XE.p xe_int) (fun _ _ => rfl)) xa_nil))) kx.nd rfl (by first | exact .inl rfl | exact .inr rfl)) (xss_cons (xs_if (xt_cmp op_isN o_isN (xp_var 2 (pv 2)) (XE.p xe_non) rfl) (xss_one (xs_ret (xe_tup (xa_cons (xe_var 0 (pv 0)) (xa_cons xe_non (xa_cons (xe_tup (xa_cons xe_str (xa_cons (xe_ix rfl (xp_var 1 (pv 1)) (XE.p xe_int) (fun _ _ => rfl)) xa_nil))) xa_nil)))))) xss_nil) (xss_one (xs_ret (xe_tup (xa_cons (xe_op op_add4 (o_add) (XE.p (xe_tup (xa_cons (xe_ix rfl (xp_var 0 (pv 0)) (XE.p xe_int) (fun _ _ => rfl)) (xa_cons (xe_var 2 (pv 2)) xa_nil)))) (XE.p (xe_slice rfl (xp_var 0 (pv 0)) (xpt_some (XE.p xe_int)) xpt_none))) (xa_cons xe_non (xa_cons xe_non xa_nil))))))))))

/-! ### act_on -/
abbrev N_act_on : List Str := ["state", "deed", "word", "count", "behind"]
abbrev P_act_on : List Str := ["state", "deed"]
def s_act_on : E Fl := (sSeq (sAsg (bO dIx (ePk 1) (ep (.int 0))) (gN 2))
    (sSeq (sIf (eT (bO dEq (ePk 2) (ep (.str "left"))))
    (sRet (eTup (aC (bO dAdd (eTup (aC (bO dIx (ePk 0) (ep (.int 0))) (aC (ep (D.tup [(D.int 0), (D.int 1)])) (aC (ep (.bl true)) aN)))) (eb (ePk 0) fun d => eb (eb (ep (.int 3)) fPart) fun lo => eb (ep none) fun hi => fSlE d lo hi)) (aC (ep .non) (aC (ep .non) aN)))))
    (ep .nx))
    (sSeq (sIf (eT (bO dEq (ePk 2) (ep (.str "right"))))
    (sRet (eTup (aC (bO dAdd (eTup (aC (bO dIx (ePk 0) (ep (.int 0))) (aC (ep (D.tup [(D.int 1), (D.int 1)])) (aC (ep (.bl false)) aN)))) (eb (ePk 0) fun d => eb (eb (ep (.int 3)) fPart) fun lo => eb (ep none) fun hi => fSlE d lo hi)) (aC (ep .non) (aC (ep .non) aN)))))
    (ep .nx))
    (sSeq (sIf (eT (bO dEq (ePk 2) (ep (.str "turn"))))
    (sRet (eTup (aC (bO dAdd (bO dAdd (eb (ePk 0) fun d => eb (ep none) fun lo => eb (eb (ep (.int 2)) fPart) fun hi => fSlE d lo hi) (eTup (aC (uO dNot (bO dIx (ePk 0) (ep (.int 2)))) aN))) (eb (ePk 0) fun d => eb (eb (ep (.int 3)) fPart) fun lo => eb (ep none) fun hi => fSlE d lo hi)) (aC (ep .non) (aC (ep .non) aN)))))
    (ep .nx))
    (sSeq (sIf (eT (bO dEq (ePk 2) (ep (.str "steps"))))
    (sSeq (sIf (eT (bO dGt (bO dIx (ePk 1) (ep (.int 1))) (eCall 1 1 0 m_state_fits gL (aC (eVar 0) aN) aN)))
    (sRet (eTup (aC (eVar 0) (aC (ep .non) (aC (ep (.str "beyond")) aN)))))
    (ep .nx))
    (sRet (eTup (aC (eCall 2 2 0 m_state_moved gL (aC (eVar 0) (aC (bO dIx (ePk 1) (ep (.int 1))) aN)) aN) (aC (ep .non) (aC (ep .non) aN))))))
    (ep .nx))
    (sSeq (sIf (eT (bO dEq (ePk 2) (ep (.str "fill"))))
    (sSeq (sAsg (bO dMin (bO dIx (ePk 1) (ep (.int 1))) (eCall 1 1 0 m_state_fits gL (aC (eVar 0) aN) aN)) (gN 3))
    (sSeq (sAsg (eCall 2 2 0 m_state_moved gL (aC (eVar 0) (aC (eVar 3) aN)) aN) (gN 4))
    (sRet (eTup (aC (bO dAdd (eb (ePk 4) fun d => eb (ep none) fun lo => eb (eb (ep (.int 4)) fPart) fun hi => fSlE d lo hi) (eTup (aC (bO dAdd (bO dIx (ePk 4) (ep (.int 4))) (eTup (aC (eVar 3) aN))) aN))) (aC (eVar 3) (aC (ep .non) aN)))))))
    (ep .nx))
    (sSeq (sIf (eT (bO dEq (ePk 2) (ep (.str "gap"))))
    (sRet (eCall 2 2 0 m_state_set gL (aC (eVar 0) (aC (eCall 1 1 0 m_state_gap gL (aC (eVar 0) aN) aN) aN)) aN))
    (ep .nx))
    (sSeq (sIf (eT (bO dEq (ePk 2) (ep (.str "rest"))))
    (sRet (eTup (aC (eVar 0) (aC (bO dEq (bO dIx (eCall 1 1 0 m_state_gap gL (aC (eVar 0) aN) aN) (ep (.int 0))) (ep (.int 0))) (aC (ep .non) aN)))))
    (ep .nx))
    (sRet (eCall 2 2 0 m_act_on_marks gL (aC (eVar 0) (aC (eVar 1) aN)) aN))))))))))
def m_act_on : List D → E0 D := dF 5 s_act_on
theorem me_act_on (a0 a1 : D) (Q : D → Zs → Prop) (X : Er → Zs → Prop) (z : Zs) : m_act_on [a0, a1] Q X z = s_act_on [Sl.fr a0, Sl.fr a1, Sl.no, Sl.no, Sl.no] (outF Q) (fun e _ z => X e z) z := rfl
theorem sc_act_on : FnScope N_act_on P_act_on (defScope (top 35)) := ⟨rfl, rfl, rfl, by decide +kernel, rfl, by decide +kernel, by decide +kernel⟩
theorem ok_act_on (B : Ctx P w K mg base) : ∃ fd, GFn P w K mg base "act_on" 8 (He.fAd K ("act_on", none)) fd P_act_on (spF K mg 2 m_act_on) := by
  obtain ⟨fd, F⟩ := B.2.2.1.def_ 35 (d := d35) rfl
  obtain ⟨fd_act_on_marks, g_act_on_marks⟩ := ok_act_on_marks B
  obtain ⟨fd_state_gap, g_state_gap⟩ := ok_state_gap B
  obtain ⟨fd_state_set, g_state_set⟩ := ok_state_set B
  obtain ⟨fd_state_moved, g_state_moved⟩ := ok_state_moved B
  obtain ⟨fd_state_fits, g_state_fits⟩ := ok_state_fits B
  have mb_min := mbf_min B
  refine ⟨fd, ⟨fnF_of (k := 7) F sc_act_on fun cdv A outer s H E pa F0 kx => ?_, mg_act_on B, F.kp, bg_pos (F.bindsN fun _ _ _ _ _ _ us hl => match us, hl with | [_, _], _ => rfl)⟩⟩
  exact (xss_cons (xs_set 2 (xe_ix rfl (xp_var 1 (pv 1)) (XE.p xe_int) (fun _ _ => rfl)) kx.nd rfl (by first | exact .inl rfl | exact .inr rfl)) (xss_cons (xs_if (xt_cmp (op_eq2 kx.hu) o_eq (xp_var 2 (pv 2)) (XE.p xe_str) rfl) (xss_one (xs_ret (xe_tup (xa_cons (xe_op op_add4 (o_add) (XE.p (xe_tup (xa_cons (xe_ix rfl (xp_var 0 (pv 0)) (XE.p xe_int) (fun _ _ => rfl)) (xa_cons (xe_gtup (y := "LEFT_END") rfl rfl (mg_LEFT_END B) (con_LEFT_END B)) (xa_cons xe_bl xa_nil))))) (XE.p (xe_slice rfl (xp_var 0 (pv 0)) (xpt_some (XE.p xe_int)) xpt_none))) (xa_cons xe_non (xa_cons xe_non xa_nil)))))) xss_nil) (xss_cons (xs_if (xt_cmp (op_eq2 kx.hu) o_eq (xp_var 2 (pv 2)) (XE.p xe_str) rfl) (xss_one (xs_ret (xe_tup (xa_cons (xe_op op_add4 (o_add) (XE.p (xe_tup (xa_cons (xe_ix rfl (xp_var 0 (pv 0)) (XE.p xe_int) (fun _ _ => rfl)) (xa_cons (xe_gtup (y := "RIGHT_END") rfl rfl (mg_RIGHT_END B) (con_RIGHT_END B)) (xa_cons xe_bl xa_nil))))) (XE.p (xe_slice rfl (xp_var 0 (pv 0)) (xpt_some (XE.p xe_int)) xpt_none))) (xa_cons xe_non (xa_cons xe_non xa_nil)))))) xss_nil) (xss_cons (xs_if (xt_cmp (op_eq2 kx.hu) o_eq (xp_var 2 (pv 2)) (XE.p xe_str) rfl) (xss_one (xs_ret (xe_tup (xa_cons (xe_op op_add4 (o_add) (XE.p (xe_op op_add4 (o_add) (XE.p (xe_slice rfl (xp_var 0 (pv 0)) xpt_none (xpt_some (XE.p xe_int)))) (XE.p (xe_tup (xa_cons (xe_not (XE.p (xe_ix rfl (xp_var 0 (pv 0)) (XE.p xe_int) (fun _ _ => rfl)))) xa_nil))))) (XE.p (xe_slice rfl (xp_var 0 (pv 0)) (xpt_some (XE.p xe_int)) xpt_none))) (xa_cons xe_non (xa_cons xe_non xa_nil)))))) xss_nil) (xss_cons (xs_if (xt_cmp (op_eq2 kx.hu) o_eq (xp_var 2 (pv 2)) (XE.p xe_str) rfl) (xss_cons (xs_if (xt_cmp op_gt o_gt (XE.p (xe_ix rfl (xp_var 1 (pv 1)) (XE.p xe_int) (fun _ _ => rfl))) (XE.p (xe_call g_state_fits.g kx (by omega) g_state_fits.bg rfl (xa_cons (xe_var 0 (pv 0)) xa_nil))) rfl) (xss_one (xs_ret (xe_tup (xa_cons (xe_var 0 (pv 0)) (xa_cons xe_non (xa_cons xe_str xa_nil)))))) xss_nil) (xss_one (xs_ret (xe_tup (xa_cons (xe_call g_state_moved.g kx (by omega) g_state_moved.bg rfl (xa_cons (xe_var 0 (pv 0)) (xa_cons (xe_ix rfl (xp_var 1 (pv 1)) (XE.p xe_int) (fun _ _ => rfl)) xa_nil))) (xa_cons xe_non (xa_cons xe_non xa_nil))))))) xss_nil) (xss_cons (xs_if (xt_cmp (op_eq2 kx.hu) o_eq (xp_var 2 (pv 2)) (XE.p xe_str) rfl) (xss_cons (xs_set 3 (xe_min2 kx rfl mb_min (XE.p (xe_ix rfl (xp_var 1 (pv 1)) (XE.p xe_int) (fun _ _ => rfl))) (XE.p (xe_call g_state_fits.g kx (by omega) g_state_fits.bg rfl (xa_cons (xe_var 0 (pv 0)) xa_nil)))) kx.nd rfl (by first | exact .inl rfl | exact .inr rfl)) (xss_cons (xs_set 4 (xe_call g_state_moved.g kx (by omega) g_state_moved.bg rfl (xa_cons (xe_var 0 (pv 0)) (xa_cons (xe_var 3 (pv 3)) xa_nil))) kx.nd rfl (by first | exact .inl rfl | exact .inr rfl)) (xss_one (xs_ret (xe_tup (xa_cons (xe_op op_add4 (o_add) (XE.p (xe_slice rfl (xp_var 4 (pv 4)) xpt_none (xpt_some (XE.p xe_int)))) (XE.p (xe_tup (xa_cons (xe_op op_add4 (o_add) (XE.p (xe_ix rfl (xp_var 4 (pv 4)) (XE.p xe_int) (fun _ _ => rfl))) (XE.p (xe_tup (xa_cons (xe_var 3 (pv 3)) xa_nil)))) xa_nil)))) (xa_cons (xe_var 3 (pv 3)) (xa_cons xe_non xa_nil)))))))) xss_nil) (xss_cons (xs_if (xt_cmp (op_eq2 kx.hu) o_eq (xp_var 2 (pv 2)) (XE.p xe_str) rfl) (xss_one (xs_ret (xe_call g_state_set.g kx (by omega) g_state_set.bg rfl (xa_cons (xe_var 0 (pv 0)) (xa_cons (xe_call g_state_gap.g kx (by omega) g_state_gap.bg rfl (xa_cons (xe_var 0 (pv 0)) xa_nil)) xa_nil))))) xss_nil) (xss_cons (xs_if (xt_cmp (op_eq2 kx.hu) o_eq (xp_var 2 (pv 2)) (XE.p xe_str) rfl) (xss_one (xs_ret (xe_tup (xa_cons (xe_var 0 (pv 0)) (xa_cons (xe_cmp (op_eq2 kx.hu) o_eq (XE.p (xe_ix rfl (XE.p (xe_call g_state_gap.g kx (by omega) g_state_gap.bg rfl (xa_cons (xe_var 0 (pv 0)) xa_nil))) (XE.p xe_int) (fun _ _ => rfl))) (XE.p xe_int) rfl) (xa_cons xe_non xa_nil)))))) xss_nil) (xss_one (xs_ret (xe_call g_act_on_marks.g kx (by omega) g_act_on_marks.bg rfl (xa_cons (xe_var 0 (pv 0)) (xa_cons (xe_var 1 (pv 1)) xa_nil)))))))))))))

/-! ### state_end -/
abbrev N_state_end : List Str := ["word", "state"]
abbrev P_state_end : List Str := ["word", "state"]
def s_state_end : E Fl := (sRet (eTup (aC (oP (eb (bO dIx (ePk 1) (ep (.int 4))) fList)) (aC (eTup (aC (eVar 0) (aC (bO dIx (ePk 1) (ep (.int 0))) (aC (bO dIx (ePk 1) (ep (.int 1))) (aC (oP (eb (bO dIx (ePk 1) (ep (.int 3))) fList)) aN))))) aN))))
def m_state_end : List D → E0 D := dF 2 s_state_end
theorem me_state_end (a0 a1 : D) (Q : D → Zs → Prop) (X : Er → Zs → Prop) (z : Zs) : m_state_end [a0, a1] Q X z = s_state_end [Sl.fr a0, Sl.fr a1] (outF Q) (fun e _ z => X e z) z := rfl
theorem sc_state_end : FnScope N_state_end P_state_end (defScope (top 36)) := ⟨rfl, rfl, rfl, by decide +kernel, rfl, by decide +kernel, by decide +kernel⟩
theorem ok_state_end (B : Ctx P w K mg base) : ∃ fd, GFn P w K mg base "state_end" 1 (He.fAd K ("state_end", none)) fd P_state_end (spF K mg 2 m_state_end) := by
  obtain ⟨fd, F⟩ := B.2.2.1.def_ 36 (d := d36) rfl
  have mb_list := mbf_list B
  refine ⟨fd, ⟨fnF_of (k := 0) F sc_state_end fun cdv A outer s H E pa F0 kx => ?_, mg_state_end B, F.kp, bg_pos (F.bindsN fun _ _ _ _ _ _ us hl => match us, hl with | [_, _], _ => rfl)⟩⟩
  exact (xss_one (xs_ret (xe_tup (xa_cons (XO.fz (xo_list kx rfl mb_list (XE.p (xe_ix rfl (xp_var 1 (pv 1)) (XE.p xe_int) (fun _ _ => rfl))))) (xa_cons (xe_tup (xa_cons (xe_var 0 (pv 0)) (xa_cons (xe_ix rfl (xp_var 1 (pv 1)) (XE.p xe_int) (fun _ _ => rfl)) (xa_cons (xe_ix rfl (xp_var 1 (pv 1)) (XE.p xe_int) (fun _ _ => rfl)) (xa_cons (XO.fz (xo_list kx rfl mb_list (XE.p (xe_ix rfl (xp_var 1 (pv 1)) (XE.p xe_int) (fun _ _ => rfl))))) xa_nil))))) xa_nil)))))

/-! ### run -/
abbrev N_run : List Str := ["plan", "opening", "state", "index", "deed", "told", "why"]
abbrev P_run : List Str := ["plan", "opening"]
def p0_run (ρ : Rho) (Q : Fl → Rho → Zs → Prop) (X : Er → Rho → Zs → Prop) (z : Zs) : Prop := (sSeq (sAsg (eCall 2 2 0 m_act_on gL (aC (eVar 2) (aC (eVar 4) aN)) aN) (gTp 3 (gCn (gN 2) (gCn (gN 5) (gCn (gN 6) gNl)))))
    (sSeq (sIf (eT (bO dNotN (ePk 6) (ep .non)))
    (sRet (eTup (aC (oP (eb (bO dIx (ePk 2) (ep (.int 4))) fList)) (aC (eTup (aC (ep (.str "failed")) (aC (eVar 3) (aC (eVar 6) aN)))) aN))))
    (ep .nx))
    (sIf (eAnd (eT (bO dEq (bO dIx (ePk 4) (ep (.int 0))) (ep (.str "rest")))) (tV (ePk 5)))
    (sRet (eCall 2 2 0 m_state_end gL (aC (ep (.str "over")) (aC (eVar 2) aN)) aN))
    (ep .nx)))) ρ Q X z
def s_run : E Fl := (sSeq (sAsg (eCall 1 1 0 m_state_begun gL (aC (eCall 1 1 0 m_checked_opening gL (aC (eVar 1) aN) aN) aN) aN) (gN 2))
    (sSeq (sFor (eb (aC (oP (eb (eVar 0) (fProp "Script" m_Script_deeds))) aN) fEnum) (gTp 2 (gCn (gN 3) (gCn (gN 4) gNl))) p0_run)
    (sRet (eCall 2 2 0 m_state_end gL (aC (ep (.str "done")) (aC (eVar 2) aN)) aN))))
def m_run : List D → E0 D := dF 7 s_run
theorem me_run (a0 a1 : D) (Q : D → Zs → Prop) (X : Er → Zs → Prop) (z : Zs) : m_run [a0, a1] Q X z = s_run [Sl.fr a0, Sl.fr a1, Sl.no, Sl.no, Sl.no, Sl.no, Sl.no] (outF Q) (fun e _ z => X e z) z := rfl
theorem sc_run : FnScope N_run P_run (defScope (top 37)) := ⟨rfl, rfl, rfl, by decide +kernel, rfl, by decide +kernel, by decide +kernel⟩
theorem ok_run (B : Ctx P w K mg base) : ∃ fd, GFn P w K mg base "run" 9 (He.fAd K ("run", none)) fd P_run (spF K mg 2 m_run) := by
  obtain ⟨fd, F⟩ := B.2.2.1.def_ 37 (d := d37) rfl
  obtain ⟨fd_state_end, g_state_end⟩ := ok_state_end B
  obtain ⟨fd_Script_deeds, g_Script_deeds⟩ := ok_Script_deeds B
  obtain ⟨fd_act_on, g_act_on⟩ := ok_act_on B
  obtain ⟨fd_state_begun, g_state_begun⟩ := ok_state_begun B
  obtain ⟨fd_checked_opening, g_checked_opening⟩ := ok_checked_opening B
  have mb_enumerate := mbf_enumerate B
  have mb_list := mbf_list B
  refine ⟨fd, ⟨fnF_of (k := 8) F sc_run fun cdv A outer s H E pa F0 kx => ?_, mg_run B, F.kp, bg_pos (F.bindsN fun _ _ _ _ _ _ us hl => match us, hl with | [_, _], _ => rfl)⟩⟩
  exact (xss_cons (xs_set 2 (xe_call g_state_begun.g kx (by omega) g_state_begun.bg rfl (xa_cons (xe_call g_checked_opening.g kx (by omega) g_checked_opening.bg rfl (xa_cons (xe_var 1 (pv 1)) xa_nil)) xa_nil)) kx.nd rfl (by first | exact .inl rfl | exact .inr rfl)) (xss_cons (xs_for kx (xi_enum rfl (xa_cons (XO.fz (xo_prop kx (mg_Script B) (cls_Script B) (prop_Script_deeds B) g_Script_deeds.g (by omega) rfl (xe_var 0 (pv 0)))) xa_nil) rfl mb_enumerate) (xg_tup rfl kx.calm (xgs_cons (xg_name 3 (pg_name kx.nd rfl (by first | exact .inl rfl | exact .inr rfl))) (xgs_cons (xg_name 4 (pg_name kx.nd rfl (by first | exact .inl rfl | exact .inr rfl))) xgs_nil))) (xss_cons (xs_asg (xe_call g_act_on.g kx (by omega) g_act_on.bg rfl (xa_cons (xe_var 2 (pv 2)) (xa_cons (xe_var 4 (pv 4)) xa_nil))) (xg_tup rfl kx.calm (xgs_cons (xg_name 2 (pg_name kx.nd rfl (by first | exact .inl rfl | exact .inr rfl))) (xgs_cons (xg_name 5 (pg_name kx.nd rfl (by first | exact .inl rfl | exact .inr rfl))) (xgs_cons (xg_name 6 (pg_name kx.nd rfl (by first | exact .inl rfl | exact .inr rfl))) xgs_nil))))) (xss_cons (xs_if (xt_cmp op_notN o_notN (xp_var 6 (pv 6)) (XE.p xe_non) rfl) (xss_one (xs_ret (xe_tup (xa_cons (XO.fz (xo_list kx rfl mb_list (XE.p (xe_ix rfl (xp_var 2 (pv 2)) (XE.p xe_int) (fun _ _ => rfl))))) (xa_cons (xe_tup (xa_cons xe_str (xa_cons (xe_var 3 (pv 3)) (xa_cons (xe_var 6 (pv 6)) xa_nil)))) xa_nil))))) xss_nil) (xss_one (xs_if (XW.t (xw_and (xt_cmp (op_eq2 kx.hu) o_eq (XE.p (xe_ix rfl (xp_var 4 (pv 4)) (XE.p xe_int) (fun _ _ => rfl))) (XE.p xe_str) rfl) (xw_and1 (xt_tru rfl (xp_var 5 (pv 5)))))) (xss_one (xs_ret (xe_call g_state_end.g kx (by omega) g_state_end.bg rfl (xa_cons xe_str (xa_cons (xe_var 2 (pv 2)) xa_nil))))) xss_nil))))) (xss_one (xs_ret (xe_call g_state_end.g kx (by omega) g_state_end.bg rfl (xa_cons xe_str (xa_cons (xe_var 2 (pv 2)) xa_nil)))))))

/-! ### _law_purse -/
abbrev N__law_purse : List Str := ["_law_script", "_law_place", "_law_cell"]
abbrev P__law_purse : List Str := ["_law_script", "_law_place"]
def s__law_purse : E Fl := (sSeq (sAsg (eIf (eT (bO dLt (ePk 1) (uO dLen (ePk 0)))) (bO dIx (ePk 0) (ePk 1)) (ep (.int 0))) (gN 2))
    (sRetO (eLst (aC (bO dMax (ep (.int 0)) (bO dSub (uO dAbs (ePk 2)) (bO dPow (ep (.int 10)) (ep (.int 18))))) (aC (bO dMod (uO dInt (bO dAdd (bO dAdd (bO dMul (ePk 2) (ep (.int 30011))) (bO dMul (ePk 1) (ep (.int 7368787)))) (ep (.int 104729)))) (bO dAdd (bO dPow (ep (.int 10)) (ep (.int 24))) (ep (.int 7)))) (aC (ep (.int 0)) aN))))))
def m__law_purse : List D → E0 (List D) := dO 3 s__law_purse
theorem me__law_purse (a0 a1 : D) (Q : List D → Zs → Prop) (X : Er → Zs → Prop) (z : Zs) : m__law_purse [a0, a1] Q X z = s__law_purse [Sl.fr a0, Sl.fr a1, Sl.no] (outO Q) (fun e _ z => X e z) z := rfl
theorem sc__law_purse : FnScope N__law_purse P__law_purse (defScope (top 39)) := ⟨rfl, rfl, rfl, by decide +kernel, rfl, by decide +kernel, by decide +kernel⟩
theorem ok__law_purse (B : Ctx P w K mg base) : ∃ fd, GFn P w K mg base "_law_purse" 1 (He.fAd K ("_law_purse", none)) fd P__law_purse (spO K mg 2 m__law_purse) := by
  obtain ⟨fd, F⟩ := B.2.2.1.def_ 38 (d := d39) rfl
  have mb_abs := mbf_abs B
  have mb_int := mbf_int B
  have mb_len := mbf_len B
  have mb_max := mbf_max B
  refine ⟨fd, ⟨fnO_of (k := 0) F sc__law_purse fun cdv A outer s H E pa F0 kx => ?_, mg__law_purse B, F.kp, bg_pos (F.bindsN fun _ _ _ _ _ _ us hl => match us, hl with | [_, _], _ => rfl)⟩⟩
  exact (xss_cons (xs_set 2 (xe_if (xt_cmp op_lt2 o_lt (xp_var 1 (pv 1)) (XE.p (xe_len rfl rfl mb_len (xp_var 0 (pv 0)))) rfl) (xe_ix rfl (xp_var 0 (pv 0)) (xp_var 1 (pv 1)) (fun _ _ => rfl)) xe_int) kx.nd rfl (by first | exact .inl rfl | exact .inr rfl)) (xss_one (xs_retO (xo_lst (xa_cons (xe_max2 kx rfl mb_max (XE.p xe_int) (XE.p (xe_op op_sub (o_sub) (XE.p (xe_abs rfl mb_abs (xp_var 2 (pv 2)))) (XE.p (xe_op op_powG (o_pow) (XE.p xe_int) (XE.p xe_int)))))) (xa_cons (xe_op op_modN (o_mod) (XE.p (xe_int1 rfl mb_int (XE.p (xe_op op_add4 (o_add) (XE.p (xe_op op_add4 (o_add) (XE.p (xe_op op_mulG (o_mul) (xp_var 2 (pv 2)) (XE.p xe_int))) (XE.p (xe_op op_mulG (o_mul) (xp_var 1 (pv 1)) (XE.p xe_int))))) (XE.p xe_int))))) (XE.p (xe_op op_add4 (o_add) (XE.p (xe_op op_powG (o_pow) (XE.p xe_int) (XE.p xe_int))) (XE.p xe_int)))) (xa_cons xe_int xa_nil)))))))

/-! ### _law_coin -/
abbrev N__law_coin : List Str := ["_law_purse_here", "_law_many", "_law_stirred", "_law_drawn"]
abbrev P__law_coin : List Str := ["_law_purse_here", "_law_many"]
def s__law_coin : E Fl := (sSeq (sIf (eT (bO dGt (ePz 0 0) (ep (.int 0))))
    (sSeq (sAsg (bO dMod (uO dInt (ePz 0 0)) (ePk 1)) (gN 3))
    (sSeq (sPz 0 0 (bO dDiv (ePz 0 0) (ePk 1)))
    (sRet (eVar 3))))
    (ep .nx))
    (sSeq (sPz 0 2 (bO dAdd (ePz 0 2) (ep (.int 1))))
    (sSeq (sAsg (bO dMod (bO dPow (uO dInt (bO dAdd (ePz 0 1) (bO dMul (ep (.int 2038074743)) (ePz 0 2)))) (ep (.int 3))) (bO dAdd (bO dPow (ep (.int 10)) (ep (.int 25))) (ep (.int 13)))) (gN 2))
    (sSeq (sAsg (bO dMod (bO dPow (uO dInt (bO dAdd (ePk 2) (bO dMul (ep (.int 982451653)) (ePz 0 2)))) (ep (.int 2))) (bO dAdd (bO dPow (ep (.int 10)) (ep (.int 24))) (ep (.int 7)))) (gN 2))
    (sRet (bO dMod (uO dInt (bO dDiv (ePk 2) (ep (.int 1024)))) (ePk 1)))))))
def m__law_coin : List D → E0 D := dF 4 s__law_coin
theorem me__law_coin (a0 a1 : D) (Q : D → Zs → Prop) (X : Er → Zs → Prop) (z : Zs) : m__law_coin [a0, a1] Q X z = s__law_coin [Sl.fr a0, Sl.fr a1, Sl.no, Sl.no] (outF Q) (fun e _ z => X e z) z := rfl
theorem sc__law_coin : FnScope N__law_coin P__law_coin (defScope (top 40)) := ⟨rfl, rfl, rfl, by decide +kernel, rfl, by decide +kernel, by decide +kernel⟩
theorem ok__law_coin (B : Ctx P w K mg base) : ∃ fd, GFn P w K mg base "_law_coin" 1 (He.fAd K ("_law_coin", none)) fd P__law_coin (spF K mg 2 m__law_coin) := by
  obtain ⟨fd, F⟩ := B.2.2.1.def_ 39 (d := d40) rfl
  have mb_int := mbf_int B
  refine ⟨fd, ⟨fnF_of (k := 0) F sc__law_coin fun cdv A outer s H E pa F0 kx => ?_, mg__law_coin B, F.kp, bg_pos (F.bindsN fun _ _ _ _ _ _ us hl => match us, hl with | [_, _], _ => rfl)⟩⟩
  exact (xss_cons (xs_if (xt_cmp op_gt o_gt (XE.p (xe_pz 0 0 rfl (pv 0) (fun _ _ => rfl))) (XE.p xe_int) rfl) (xss_cons (xs_set 3 (xe_op op_modN (o_mod) (XE.p (xe_int1 rfl mb_int (XE.p (xe_pz 0 0 rfl (pv 0) (fun _ _ => rfl))))) (xp_var 1 (pv 1))) kx.nd rfl (by first | exact .inl rfl | exact .inr rfl)) (xss_cons (xs_pz 0 0 (pv 0) (xe_op op_divG (o_div) (XE.p (xe_pz 0 0 rfl (pv 0) (fun _ _ => rfl))) (xp_var 1 (pv 1)))) (xss_one (xs_ret (xe_var 3 (pv 3)))))) xss_nil) (xss_cons (xs_pz 0 2 (pv 0) (xe_op op_add4 (o_add) (XE.p (xe_pz 0 2 rfl (pv 0) (fun _ _ => rfl))) (XE.p xe_int))) (xss_cons (xs_set 2 (xe_op op_modN (o_mod) (XE.p (xe_op op_powG (o_pow) (XE.p (xe_int1 rfl mb_int (XE.p (xe_op op_add4 (o_add) (XE.p (xe_pz 0 1 rfl (pv 0) (fun _ _ => rfl))) (XE.p (xe_op op_mulG (o_mul) (XE.p xe_int) (XE.p (xe_pz 0 2 rfl (pv 0) (fun _ _ => rfl))))))))) (XE.p xe_int))) (XE.p (xe_op op_add4 (o_add) (XE.p (xe_op op_powG (o_pow) (XE.p xe_int) (XE.p xe_int))) (XE.p xe_int)))) kx.nd rfl (by first | exact .inl rfl | exact .inr rfl)) (xss_cons (xs_set 2 (xe_op op_modN (o_mod) (XE.p (xe_op op_powG (o_pow) (XE.p (xe_int1 rfl mb_int (XE.p (xe_op op_add4 (o_add) (xp_var 2 (pv 2)) (XE.p (xe_op op_mulG (o_mul) (XE.p xe_int) (XE.p (xe_pz 0 2 rfl (pv 0) (fun _ _ => rfl))))))))) (XE.p xe_int))) (XE.p (xe_op op_add4 (o_add) (XE.p (xe_op op_powG (o_pow) (XE.p xe_int) (XE.p xe_int))) (XE.p xe_int)))) kx.nd rfl (by first | exact .inl rfl | exact .inr rfl)) (xss_one (xs_ret (xe_op op_modN (o_mod) (XE.p (xe_int1 rfl mb_int (XE.p (xe_op op_divG (o_div) (xp_var 2 (pv 2)) (XE.p xe_int))))) (xp_var 1 (pv 1)))))))))

/-! ### _law_words -/
abbrev N__law_words : List Str := ["_law_purse_here", "_law_many", "_law_menu", "_law_stem", "_law_found", "_law_rank", "_law_letters", "_law_sort_here", "_law_start", "_law_base", "_law_word", "_law_tail", "_law_spot_here", "_law_letter_here", "_law_size", "_law_turn"]
abbrev P__law_words : List Str := ["_law_purse_here", "_law_many"]
def p0__law_words (ρ : Rho) (Q : Fl → Rho → Zs → Prop) (X : Er → Rho → Zs → Prop) (z : Zs) : Prop := (sSeq (sAsg (bO dIx (ePk 6) (bO dMod (uO dInt (bO dAdd (ePk 8) (ePk 5))) (ep (.int 26)))) (gN 13))
    (sApp 4 (bO dAdd (bO dAdd (eb (ePk 11) fun d => eb (ep none) fun lo => eb (eb (ePk 12) fPart) fun hi => fSlE d lo hi) (ePk 13)) (eb (ePk 11) fun d => eb (eb (ePk 12) fPart) fun lo => eb (ep none) fun hi => fSlE d lo hi)))) ρ Q X z
def p1__law_words (ρ : Rho) (Q : Fl → Rho → Zs → Prop) (X : Er → Rho → Zs → Prop) (z : Zs) : Prop := (sApp 4 (bO dIx (oP (eLst (aC (bO dAdd (eb (ePk 10) fun d => eb (ep none) fun lo => eb (eb (ep (.int 3)) fPart) fun hi => fSlE d lo hi) (ePk 9)) (aC (bO dAdd (ePk 9) (eb (ePk 10) fun d => eb (ep none) fun lo => eb (eb (ep (.int 3)) fPart) fun hi => fSlE d lo hi)) aN)))) (eCall 2 2 0 m__law_coin gL (aC (eVar 0) (aC (ep (.int 2)) aN)) aN))) ρ Q X z
def p2__law_words (ρ : Rho) (Q : D → Rho → Zs → Prop) (X : Er → Rho → Zs → Prop) (z : Zs) : Prop := (bO dIx (ePk 6) (eCall 2 2 0 m__law_coin gL (aC (eVar 0) (aC (ep (.int 26)) aN)) aN)) ρ Q X z
def p3__law_words (ρ : Rho) (Q : Fl → Rho → Zs → Prop) (X : Er → Rho → Zs → Prop) (z : Zs) : Prop := (sSeq (sAsg (bO dAdd (ep (.int 1)) (eCall 2 2 0 m__law_coin gL (aC (eVar 0) (aC (ep (.int 8)) aN)) aN)) (gN 14))
    (sApp 4 (eb (oP (eLc [15] (eb (aC (eVar 14) aN) fRng1) (gN 15) (ep true) p2__law_words)) fun y => eP (dJoin "" y)))) ρ Q X z
def p4__law_words (ρ : Rho) (Q : D → Rho → Zs → Prop) (X : Er → Rho → Zs → Prop) (z : Zs) : Prop := (eb (ePk 3) fun d => eb (ep none) fun lo => eb (eb (bO dAdd (bO dAdd (ePk 8) (ePk 5)) (ep (.int 1))) fPart) fun hi => fSlE d lo hi) ρ Q X z
def p5__law_words (ρ : Rho) (Q : D → Rho → Zs → Prop) (X : Er → Rho → Zs → Prop) (z : Zs) : Prop := (bO dIx (ePk 2) (bO dMod (uO dInt (bO dAdd (ePk 8) (bO dMul (ep (.int 3)) (ePk 5)))) (ep (.int 14)))) ρ Q X z
def p6__law_words (ρ : Rho) (Q : D → Rho → Zs → Prop) (X : Er → Rho → Zs → Prop) (z : Zs) : Prop := (bO dIx (ePk 6) (eCall 2 2 0 m__law_coin gL (aC (eVar 0) (aC (ep (.int 26)) aN)) aN)) ρ Q X z
def s__law_words : E Fl := (sSeq (sAsg (eTup (aC (ep (.str "abcdefghijklmnopqrstuvwxyz")) (aC (eCall 2 2 0 m__law_coin gL (aC (eVar 0) (aC (ep (.int 5)) aN)) aN) aN))) (gTp 2 (gCn (gN 6) (gCn (gN 7) gNl))))
    (sSeq (sAsg (oP (eLst (aC (ep (.str "left")) (aC (ep (.str "right")) (aC (ep (.str "steps")) (aC (ep (.str "fill")) (aC (ep (.str "gap")) (aC (ep (.str "span")) (aC (ep (.str "mark")) aN))))))))) (gN 2))
    (sSeq (sAsg (oP (bC (ePk 2) (oP (eLst (aC (ep (.str "go")) (aC (ep (.str "turn")) (aC (ep (.str "rest")) (aC (ep (.str "t")) (aC (ep (.str "a")) (aC (ep (.str "b")) (aC (ep (.str "nothing")) aN))))))))))) (gN 2))
    (sSeq (sAsg (eb (oP (eLc [15] (eb (aC (ep (.int 8)) aN) fRng1) (gN 15) (ep true) p6__law_words)) fun y => eP (dJoin "" y)) (gN 3))
    (sSeq (sIf (eAnd (eT (bO dEq (ePk 7) (ep (.int 0)))) (eT (bO dLt (ePk 1) (ep (.int 15)))))
    (sSeq (sAsg (eCall 2 2 0 m__law_coin gL (aC (eVar 0) (aC (ep (.int 14)) aN)) aN) (gN 8))
    (sRetO (eLc [5] (eb (aC (eVar 1) aN) fRng1) (gN 5) (ep true) p5__law_words)))
    (ep .nx))
    (sSeq (sIf (eAnd (eT (bO dEq (ePk 7) (ep (.int 1)))) (eT (bO dLt (ePk 1) (ep (.int 9)))))
    (sSeq (sAsg (eCall 2 2 0 m__law_coin gL (aC (eVar 0) (aC (bO dSub (ep (.int 9)) (ePk 1)) aN)) aN) (gN 8))
    (sRetO (eLc [5] (eb (aC (eVar 1) aN) fRng1) (gN 5) (ep true) p4__law_words)))
    (ep .nx))
    (sSeq (sAsgO (eLst aN) 4)
    (sSeq (sIf (eT (bO dEq (ePk 7) (ep (.int 3))))
    (sFor (eb (aC (eVar 1) aN) fRng1) (gN 5) p3__law_words)
    (ep .nx))
    (sSeq (sIf (eT (bO dEq (ePk 7) (ep (.int 4))))
    (sSeq (sAsg (eb (ePk 3) fun d => eb (ep none) fun lo => eb (eb (bO dAdd (ep (.int 1)) (eCall 2 2 0 m__law_coin gL (aC (eVar 0) (aC (ep (.int 5)) aN)) aN)) fPart) fun hi => fSlE d lo hi) (gN 9))
    (sSeq (sAsgO (eLst (aC (eVar 9) aN)) 4)
    (sSeq (sFor (eb (eVar 2) fSeqI) (gN 10) p1__law_words)
    (sAsgO (eb (ePk 4) fun d => eb (ep none) fun lo => eb (eb (ePk 1) fPart) fun hi => fSlO d lo hi) 4))))
    (ep .nx))
    (sSeq (sIf (eT (bO dEq (uO dLenSet (ePk 4)) (ePk 1)))
    (sRetV 4)
    (ep .nx))
    (sSeq (sAsg (eTup (aC (eCall 2 2 0 m__law_coin gL (aC (eVar 0) (aC (ep (.int 26)) aN)) aN) (aC (eb (ePk 3) fun d => eb (ep none) fun lo => eb (eb (eCall 2 2 0 m__law_coin gL (aC (eVar 0) (aC (ep (.int 8)) aN)) aN) fPart) fun hi => fSlE d lo hi) aN))) (gTp 2 (gCn (gN 8) (gCn (gN 11) gNl))))
    (sSeq (sParFO 12 4 (eCall 2 2 0 m__law_coin gL (aC (eVar 0) (aC (bO dAdd (uO dLen (ePk 11)) (ep (.int 1))) aN)) aN) (eLst aN))
    (sSeq (sFor (eb (aC (eVar 1) aN) fRng1) (gN 5) p0__law_words)
    (sRetV 4))))))))))))))
def m__law_words : List D → E0 (List D) := dO 16 s__law_words
theorem me__law_words (a0 a1 : D) (Q : List D → Zs → Prop) (X : Er → Zs → Prop) (z : Zs) : m__law_words [a0, a1] Q X z = s__law_words [Sl.fr a0, Sl.fr a1, Sl.no, Sl.no, Sl.no, Sl.no, Sl.no, Sl.no, Sl.no, Sl.no, Sl.no, Sl.no, Sl.no, Sl.no, Sl.no, Sl.no] (outO Q) (fun e _ z => X e z) z := rfl
theorem sc__law_words : FnScope N__law_words P__law_words (defScope (top 41)) := ⟨rfl, rfl, rfl, by decide +kernel, rfl, by decide +kernel, by decide +kernel⟩
theorem ok__law_words (B : Ctx P w K mg base) : ∃ fd, GFn P w K mg base "_law_words" 2 (He.fAd K ("_law_words", none)) fd P__law_words (spO K mg 2 m__law_words) := by
  obtain ⟨fd, F⟩ := B.2.2.1.def_ 40 (d := d41) rfl
  obtain ⟨fd__law_coin, g__law_coin⟩ := ok__law_coin B
  have mb_int := mbf_int B
  have mb_len := mbf_len B
  have mb_range := mbf_range B
  have mb_set := mbf_set B
  refine ⟨fd, ⟨fnO_of (k := 1) F sc__law_words fun cdv A outer s H E pa F0 kx => ?_, mg__law_words B, F.kp, bg_pos (F.bindsN fun _ _ _ _ _ _ us hl => match us, hl with | [_, _], _ => rfl)⟩⟩
  exact (xss_cons (xs_asg (xe_tup (xa_cons xe_str (xa_cons (xe_call g__law_coin.g kx (by omega) g__law_coin.bg rfl (xa_cons (xe_var 0 (pv 0)) (xa_cons xe_int xa_nil))) xa_nil))) (xg_tup rfl kx.calm (xgs_cons (xg_name 6 (pg_name kx.nd rfl (by first | exact .inl rfl | exact .inr rfl))) (xgs_cons (xg_name 7 (pg_name kx.nd rfl (by first | exact .inl rfl | exact .inr rfl))) xgs_nil)))) (xss_cons (xs_set 2 (XO.fz (xo_lst (xa_cons xe_str (xa_cons xe_str (xa_cons xe_str (xa_cons xe_str (xa_cons xe_str (xa_cons xe_str (xa_cons xe_str xa_nil))))))))) kx.nd rfl (by first | exact .inl rfl | exact .inr rfl)) (xss_cons (xs_set 2 (XO.fz (xo_op op_add4 o_cat (xp_var 2 (pv 2)) (XO.p (xo_lst (xa_cons xe_str (xa_cons xe_str (xa_cons xe_str (xa_cons xe_str (xa_cons xe_str (xa_cons xe_str (xa_cons xe_str xa_nil))))))))))) kx.nd rfl (by first | exact .inl rfl | exact .inr rfl)) (xss_cons (xs_set 3 (xe_join rfl (XO.p (xo_lc (own := [("_law_turn", 15)]) kx (xi_range1 (xa_cons xe_int xa_nil) rfl mb_range) (by kernel_rfl) (fun _ _ _ _ _ _ kx => (xg_name 15 (pg_name kx.nd rfl (by first | exact .inl rfl | exact .inr rfl)))) (fun _ _ _ _ _ _ kx => xts_nil) (fun _ _ _ _ _ _ kx => (xe_ix rfl (xp_var 6 (pv 6)) (XE.p (xe_call g__law_coin.g kx (by omega) g__law_coin.bg rfl (xa_cons (xe_var 0 (pv 0)) (xa_cons xe_int xa_nil)))) (fun _ _ => rfl))) (by decide)))) kx.nd rfl (by first | exact .inl rfl | exact .inr rfl)) (xss_cons (xs_if (XW.t (xw_and (xt_cmp (op_eq2 kx.hu) o_eq (xp_var 7 (pv 7)) (XE.p xe_int) rfl) (xw_and1 (xt_cmp op_lt2 o_lt (xp_var 1 (pv 1)) (XE.p xe_int) rfl)))) (xss_cons (xs_set 8 (xe_call g__law_coin.g kx (by omega) g__law_coin.bg rfl (xa_cons (xe_var 0 (pv 0)) (xa_cons xe_int xa_nil))) kx.nd rfl (by first | exact .inl rfl | exact .inr rfl)) (xss_one (xs_retO (xo_lc (own := [("_law_rank", 5)]) kx (xi_range1 (xa_cons (xe_var 1 (pv 1)) xa_nil) rfl mb_range) (by kernel_rfl) (fun _ _ _ _ _ _ kx => (xg_name 5 (pg_name kx.nd rfl (by first | exact .inl rfl | exact .inr rfl)))) (fun _ _ _ _ _ _ kx => xts_nil) (fun _ _ _ _ _ _ kx => (xe_ix rfl (xp_var 2 (pv 2)) (XE.p (xe_op op_modN (o_mod) (XE.p (xe_int1 rfl mb_int (XE.p (xe_op op_add4 (o_add) (xp_var 8 (pv 8)) (XE.p (xe_op op_mulG (o_mul) (XE.p xe_int) (xp_var 5 (pv 5)))))))) (XE.p xe_int))) (fun _ _ => rfl))) (by decide))))) xss_nil) (xss_cons (xs_if (XW.t (xw_and (xt_cmp (op_eq2 kx.hu) o_eq (xp_var 7 (pv 7)) (XE.p xe_int) rfl) (xw_and1 (xt_cmp op_lt2 o_lt (xp_var 1 (pv 1)) (XE.p xe_int) rfl)))) (xss_cons (xs_set 8 (xe_call g__law_coin.g kx (by omega) g__law_coin.bg rfl (xa_cons (xe_var 0 (pv 0)) (xa_cons (xe_op op_sub (o_sub) (XE.p xe_int) (xp_var 1 (pv 1))) xa_nil))) kx.nd rfl (by first | exact .inl rfl | exact .inr rfl)) (xss_one (xs_retO (xo_lc (own := [("_law_rank", 5)]) kx (xi_range1 (xa_cons (xe_var 1 (pv 1)) xa_nil) rfl mb_range) (by kernel_rfl) (fun _ _ _ _ _ _ kx => (xg_name 5 (pg_name kx.nd rfl (by first | exact .inl rfl | exact .inr rfl)))) (fun _ _ _ _ _ _ kx => xts_nil) (fun _ _ _ _ _ _ kx => (xe_slice rfl (xp_var 3 (pv 3)) xpt_none (xpt_some (XE.p (xe_op op_add4 (o_add) (XE.p (xe_op op_add4 (o_add) (xp_var 8 (pv 8)) (xp_var 5 (pv 5)))) (XE.p xe_int)))))) (by decide))))) xss_nil) (xss_cons (xs_setO 4 (xo_lst xa_nil) kx.nd rfl (by first | exact .inl rfl | exact .inr rfl)) (xss_cons (xs_if (xt_cmp (op_eq2 kx.hu) o_eq (xp_var 7 (pv 7)) (XE.p xe_int) rfl) (xss_one (xs_for kx (xi_range1 (xa_cons (xe_var 1 (pv 1)) xa_nil) rfl mb_range) (xg_name 5 (pg_name kx.nd rfl (by first | exact .inl rfl | exact .inr rfl))) (xss_cons (xs_set 14 (xe_op op_add4 (o_add) (XE.p xe_int) (XE.p (xe_call g__law_coin.g kx (by omega) g__law_coin.bg rfl (xa_cons (xe_var 0 (pv 0)) (xa_cons xe_int xa_nil))))) kx.nd rfl (by first | exact .inl rfl | exact .inr rfl)) (xss_one (xs_app 4 kx (pv 4) (xe_join rfl (XO.p (xo_lc (own := [("_law_turn", 15)]) kx (xi_range1 (xa_cons (xe_var 14 (pv 14)) xa_nil) rfl mb_range) (by kernel_rfl) (fun _ _ _ _ _ _ kx => (xg_name 15 (pg_name kx.nd rfl (by first | exact .inl rfl | exact .inr rfl)))) (fun _ _ _ _ _ _ kx => xts_nil) (fun _ _ _ _ _ _ kx => (xe_ix rfl (xp_var 6 (pv 6)) (XE.p (xe_call g__law_coin.g kx (by omega) g__law_coin.bg rfl (xa_cons (xe_var 0 (pv 0)) (xa_cons xe_int xa_nil)))) (fun _ _ => rfl))) (by decide))))))))) xss_nil) (xss_cons (xs_if (xt_cmp (op_eq2 kx.hu) o_eq (xp_var 7 (pv 7)) (XE.p xe_int) rfl) (xss_cons (xs_set 9 (xe_slice rfl (xp_var 3 (pv 3)) xpt_none (xpt_some (XE.p (xe_op op_add4 (o_add) (XE.p xe_int) (XE.p (xe_call g__law_coin.g kx (by omega) g__law_coin.bg rfl (xa_cons (xe_var 0 (pv 0)) (xa_cons xe_int xa_nil)))))))) kx.nd rfl (by first | exact .inl rfl | exact .inr rfl)) (xss_cons (xs_setO 4 (xo_lst (xa_cons (xe_var 9 (pv 9)) xa_nil)) kx.nd rfl (by first | exact .inl rfl | exact .inr rfl)) (xss_cons (xs_for kx (xi_seq rfl (xe_var 2 (pv 2))) (xg_name 10 (pg_name kx.nd rfl (by first | exact .inl rfl | exact .inr rfl))) (xss_one (xs_app 4 kx (pv 4) (xe_ix rfl (XO.p (xo_lst (xa_cons (xe_op op_add4 (o_add) (XE.p (xe_slice rfl (xp_var 10 (pv 10)) xpt_none (xpt_some (XE.p xe_int)))) (xp_var 9 (pv 9))) (xa_cons (xe_op op_add4 (o_add) (xp_var 9 (pv 9)) (XE.p (xe_slice rfl (xp_var 10 (pv 10)) xpt_none (xpt_some (XE.p xe_int))))) xa_nil)))) (XE.p (xe_call g__law_coin.g kx (by omega) g__law_coin.bg rfl (xa_cons (xe_var 0 (pv 0)) (xa_cons xe_int xa_nil)))) (fun _ _ => rfl))))) (xss_one (xs_setO 4 (xo_slice rfl (xp_var 4 (pv 4)) xpt_none (xpt_some (xp_var 1 (pv 1)))) kx.nd rfl (by first | exact .inl rfl | exact .inr rfl)))))) xss_nil) (xss_cons (xs_if (xt_cmp (op_eq2 kx.hu) o_eq (XE.p (xe_lenSet kx rfl mb_len rfl mb_set (xp_var 4 (pv 4)))) (xp_var 1 (pv 1)) rfl) (xss_one (xs_retV 4 (pv 4))) xss_nil) (xss_cons (xs_asg (xe_tup (xa_cons (xe_call g__law_coin.g kx (by omega) g__law_coin.bg rfl (xa_cons (xe_var 0 (pv 0)) (xa_cons xe_int xa_nil))) (xa_cons (xe_slice rfl (xp_var 3 (pv 3)) xpt_none (xpt_some (XE.p (xe_call g__law_coin.g kx (by omega) g__law_coin.bg rfl (xa_cons (xe_var 0 (pv 0)) (xa_cons xe_int xa_nil)))))) xa_nil))) (xg_tup rfl kx.calm (xgs_cons (xg_name 8 (pg_name kx.nd rfl (by first | exact .inl rfl | exact .inr rfl))) (xgs_cons (xg_name 11 (pg_name kx.nd rfl (by first | exact .inl rfl | exact .inr rfl))) xgs_nil)))) (xss_cons (xs_parFO 12 4 kx rfl rfl (by decide) rfl rfl (xe_call g__law_coin.g kx (by omega) g__law_coin.bg rfl (xa_cons (xe_var 0 (pv 0)) (xa_cons (xe_op op_add4 (o_add) (XE.p (xe_len rfl rfl mb_len (xp_var 11 (pv 11)))) (XE.p xe_int)) xa_nil))) (xo_lst xa_nil) rfl) (xss_cons (xs_for kx (xi_range1 (xa_cons (xe_var 1 (pv 1)) xa_nil) rfl mb_range) (xg_name 5 (pg_name kx.nd rfl (by first | exact .inl rfl | exact .inr rfl))) (xss_cons (xs_set 13 (xe_ix rfl (xp_var 6 (pv 6)) (XE.p (xe_op op_modN (o_mod) (XE.p (xe_int1 rfl mb_int (XE.p (xe_op op_add4 (o_add) (xp_var 8 (pv 8)) (xp_var 5 (pv 5)))))) (XE.p xe_int))) (fun _ _ => rfl)) kx.nd rfl (by first | exact .inl rfl | exact .inr rfl)) (xss_one (xs_app 4 kx (pv 4) (xe_op op_add4 (o_add) (XE.p (xe_op op_add4 (o_add) (XE.p (xe_slice rfl (xp_var 11 (pv 11)) xpt_none (xpt_some (xp_var 12 (pv 12))))) (xp_var 13 (pv 13)))) (XE.p (xe_slice rfl (xp_var 11 (pv 11)) (xpt_some (xp_var 12 (pv 12))) xpt_none))))))) (xss_one (xs_retV 4 (pv 4))))))))))))))))

/-! ### _law_ds_ratio -/
abbrev N__law_ds_ratio : List Str := ["_law_upper", "_law_lower", "_law_share", "_law_first", "_law_second"]
abbrev P__law_ds_ratio : List Str := ["_law_upper", "_law_lower"]
def p0__law_ds_ratio (ρ : Rho) (Q : Bool → Rho → Zs → Prop) (X : Er → Rho → Zs → Prop) (z : Zs) : Prop := (eT (bO dNe (ePk 4) (ep (.int 0)))) ρ Q X z
def p1__law_ds_ratio (ρ : Rho) (Q : Fl → Rho → Zs → Prop) (X : Er → Rho → Zs → Prop) (z : Zs) : Prop := (sPar 3 4 (aC (eVar 4) (aC (bO dMod (uO dInt (ePk 3)) (uO dInt (ePk 4))) aN))) ρ Q X z
def s__law_ds_ratio : E Fl := (sSeq (sPar 3 4 (aC (uO dAbs (ePk 0)) (aC (uO dAbs (ePk 1)) aN)))
    (sSeq (sWhile p0__law_ds_ratio p1__law_ds_ratio)
    (sSeq (sAsg (bO dMul (ePk 3) (bO dSub (ep (.int 1)) (bO dMul (ep (.int 2)) (uO dInt (bO dLt (ePk 1) (ep (.int 0))))))) (gN 2))
    (sRet (eTup (aC (bO dDiv (ePk 0) (ePk 2)) (aC (bO dDiv (ePk 1) (ePk 2)) aN)))))))
def m__law_ds_ratio : List D → E0 D := dF 5 s__law_ds_ratio
theorem me__law_ds_ratio (a0 a1 : D) (Q : D → Zs → Prop) (X : Er → Zs → Prop) (z : Zs) : m__law_ds_ratio [a0, a1] Q X z = s__law_ds_ratio [Sl.fr a0, Sl.fr a1, Sl.no, Sl.no, Sl.no] (outF Q) (fun e _ z => X e z) z := rfl
theorem sc__law_ds_ratio : FnScope N__law_ds_ratio P__law_ds_ratio (defScope (top 42)) := ⟨rfl, rfl, rfl, by decide +kernel, rfl, by decide +kernel, by decide +kernel⟩
theorem ok__law_ds_ratio (B : Ctx P w K mg base) : ∃ fd, GFn P w K mg base "_law_ds_ratio" 1 (He.fAd K ("_law_ds_ratio", none)) fd P__law_ds_ratio (spF K mg 2 m__law_ds_ratio) := by
  obtain ⟨fd, F⟩ := B.2.2.1.def_ 41 (d := d42) rfl
  have mb_abs := mbf_abs B
  have mb_int := mbf_int B
  refine ⟨fd, ⟨fnF_of (k := 0) F sc__law_ds_ratio fun cdv A outer s H E pa F0 kx => ?_, mg__law_ds_ratio B, F.kp, bg_pos (F.bindsN fun _ _ _ _ _ _ us hl => match us, hl with | [_, _], _ => rfl)⟩⟩
  exact (xss_cons (xs_par 3 4 kx.calm kx.nd rfl rfl (by decide) rfl rfl (xa_cons (xe_abs rfl mb_abs (xp_var 0 (pv 0))) (xa_cons (xe_abs rfl mb_abs (xp_var 1 (pv 1))) xa_nil)) rfl) (xss_cons (xs_while kx (xt_cmp (op_ne2 kx.hu) o_ne (xp_var 4 (pv 4)) (XE.p xe_int) rfl) (xss_one (xs_par 3 4 kx.calm kx.nd rfl rfl (by decide) rfl rfl (xa_cons (xe_var 4 (pv 4)) (xa_cons (xe_op op_modN (o_mod) (XE.p (xe_int1 rfl mb_int (xp_var 3 (pv 3)))) (XE.p (xe_int1 rfl mb_int (xp_var 4 (pv 4))))) xa_nil)) rfl))) (xss_cons (xs_set 2 (xe_op op_mulG (o_mul) (xp_var 3 (pv 3)) (XE.p (xe_op op_sub (o_sub) (XE.p xe_int) (XE.p (xe_op op_mulG (o_mul) (XE.p xe_int) (XE.p (xe_int1 rfl mb_int (XE.p (xe_cmp op_lt2 o_lt (xp_var 1 (pv 1)) (XE.p xe_int) rfl))))))))) kx.nd rfl (by first | exact .inl rfl | exact .inr rfl)) (xss_one (xs_ret (xe_tup (xa_cons (xe_op op_divG (o_div) (xp_var 0 (pv 0)) (xp_var 2 (pv 2))) (xa_cons (xe_op op_divG (o_div) (xp_var 1 (pv 1)) (xp_var 2 (pv 2))) xa_nil))))))))

/-! ### _law_ds_act -/
abbrev N__law_ds_act : List Str := ["_law_sack", "_law_labels", "_law_great", "_law_first", "_law_second", "_law_menu", "_law_way", "_law_number"]
abbrev P__law_ds_act : List Str := ["_law_sack", "_law_labels", "_law_great"]
def s__law_ds_act : E Fl := (sSeq (sPar 6 7 (aC (eCall 2 2 0 m__law_coin gL (aC (eVar 0) (aC (ep (.int 14)) aN)) aN) (aC (bO dAdd (ep (.int 1)) (eCall 2 2 0 m__law_coin gL (aC (eVar 0) (aC (eVar 2) aN)) aN)) aN)))
    (sSeq (sAsg (bO dIx (ePk 1) (eCall 2 2 0 m__law_coin gL (aC (eVar 0) (aC (uO dLen (ePk 1)) aN)) aN)) (gN 3))
    (sSeq (sAsg (bO dIx (ePk 1) (eCall 2 2 0 m__law_coin gL (aC (eVar 0) (aC (uO dLen (ePk 1)) aN)) aN)) (gN 4))
    (sSeq (sAsg (oP (eLst (aC (eTup (aC (ep (.str "fill")) (aC (eVar 7) aN))) (aC (eTup (aC (ep (.str "fill")) (aC (eVar 7) aN))) (aC (eTup (aC (ep (.str "fill")) (aC (ep (.int 1)) aN))) (aC (eTup (aC (ep (.str "steps")) (aC (eVar 7) aN))) (aC (eTup (aC (ep (.str "steps")) (aC (ep (.int 1)) aN))) aN))))))) (gN 5))
    (sSeq (sAsg (oP (bC (ePk 5) (oP (eLst (aC (eTup (aC (ep (.str "mark")) (aC (eVar 3) aN))) (aC (eTup (aC (ep (.str "mark")) (aC (eVar 3) aN))) (aC (eTup (aC (ep (.str "gap")) aN)) (aC (eTup (aC (ep (.str "turn")) aN)) (aC (eTup (aC (ep (.str "left")) aN)) (aC (eTup (aC (ep (.str "right")) aN)) aN)))))))))) (gN 5))
    (sSeq (sAsg (oP (bC (ePk 5) (oP (eLst (aC (eTup (aC (ep (.str "go")) (aC (eVar 3) aN))) (aC (eTup (aC (ep (.str "span")) (aC (eVar 3) (aC (eVar 4) aN)))) (aC (eTup (aC (ep (.str "rest")) aN)) aN))))))) (gN 5))
    (sRet (bO dIx (ePk 5) (ePk 6)))))))))
def m__law_ds_act : List D → E0 D := dF 8 s__law_ds_act
theorem me__law_ds_act (a0 a1 a2 : D) (Q : D → Zs → Prop) (X : Er → Zs → Prop) (z : Zs) : m__law_ds_act [a0, a1, a2] Q X z = s__law_ds_act [Sl.fr a0, Sl.fr a1, Sl.fr a2, Sl.no, Sl.no, Sl.no, Sl.no, Sl.no] (outF Q) (fun e _ z => X e z) z := rfl
theorem sc__law_ds_act : FnScope N__law_ds_act P__law_ds_act (defScope (top 43)) := ⟨rfl, rfl, rfl, by decide +kernel, rfl, by decide +kernel, by decide +kernel⟩
theorem ok__law_ds_act (B : Ctx P w K mg base) : ∃ fd, GFn P w K mg base "_law_ds_act" 2 (He.fAd K ("_law_ds_act", none)) fd P__law_ds_act (spF K mg 3 m__law_ds_act) := by
  obtain ⟨fd, F⟩ := B.2.2.1.def_ 42 (d := d43) rfl
  obtain ⟨fd__law_coin, g__law_coin⟩ := ok__law_coin B
  have mb_len := mbf_len B
  refine ⟨fd, ⟨fnF_of (k := 1) F sc__law_ds_act fun cdv A outer s H E pa F0 kx => ?_, mg__law_ds_act B, F.kp, bg_pos (F.bindsN fun _ _ _ _ _ _ us hl => match us, hl with | [_, _, _], _ => rfl)⟩⟩
  exact (xss_cons (xs_par 6 7 kx.calm kx.nd rfl rfl (by decide) rfl rfl (xa_cons (xe_call g__law_coin.g kx (by omega) g__law_coin.bg rfl (xa_cons (xe_var 0 (pv 0)) (xa_cons xe_int xa_nil))) (xa_cons (xe_op op_add4 (o_add) (XE.p xe_int) (XE.p (xe_call g__law_coin.g kx (by omega) g__law_coin.bg rfl (xa_cons (xe_var 0 (pv 0)) (xa_cons (xe_var 2 (pv 2)) xa_nil))))) xa_nil)) rfl) (xss_cons (xs_set 3 (xe_ix rfl (xp_var 1 (pv 1)) (XE.p (xe_call g__law_coin.g kx (by omega) g__law_coin.bg rfl (xa_cons (xe_var 0 (pv 0)) (xa_cons (xe_len rfl rfl mb_len (xp_var 1 (pv 1))) xa_nil)))) (fun _ _ => rfl)) kx.nd rfl (by first | exact .inl rfl | exact .inr rfl)) (xss_cons (xs_set 4 (xe_ix rfl (xp_var 1 (pv 1)) (XE.p (xe_call g__law_coin.g kx (by omega) g__law_coin.bg rfl (xa_cons (xe_var 0 (pv 0)) (xa_cons (xe_len rfl rfl mb_len (xp_var 1 (pv 1))) xa_nil)))) (fun _ _ => rfl)) kx.nd rfl (by first | exact .inl rfl | exact .inr rfl)) (xss_cons (xs_set 5 (XO.fz (xo_lst (xa_cons (xe_tup (xa_cons xe_str (xa_cons (xe_var 7 (pv 7)) xa_nil))) (xa_cons (xe_tup (xa_cons xe_str (xa_cons (xe_var 7 (pv 7)) xa_nil))) (xa_cons (xe_tup (xa_cons xe_str (xa_cons xe_int xa_nil))) (xa_cons (xe_tup (xa_cons xe_str (xa_cons (xe_var 7 (pv 7)) xa_nil))) (xa_cons (xe_tup (xa_cons xe_str (xa_cons xe_int xa_nil))) xa_nil))))))) kx.nd rfl (by first | exact .inl rfl | exact .inr rfl)) (xss_cons (xs_set 5 (XO.fz (xo_op op_add4 o_cat (xp_var 5 (pv 5)) (XO.p (xo_lst (xa_cons (xe_tup (xa_cons xe_str (xa_cons (xe_var 3 (pv 3)) xa_nil))) (xa_cons (xe_tup (xa_cons xe_str (xa_cons (xe_var 3 (pv 3)) xa_nil))) (xa_cons (xe_tup (xa_cons xe_str xa_nil)) (xa_cons (xe_tup (xa_cons xe_str xa_nil)) (xa_cons (xe_tup (xa_cons xe_str xa_nil)) (xa_cons (xe_tup (xa_cons xe_str xa_nil)) xa_nil)))))))))) kx.nd rfl (by first | exact .inl rfl | exact .inr rfl)) (xss_cons (xs_set 5 (XO.fz (xo_op op_add4 o_cat (xp_var 5 (pv 5)) (XO.p (xo_lst (xa_cons (xe_tup (xa_cons xe_str (xa_cons (xe_var 3 (pv 3)) xa_nil))) (xa_cons (xe_tup (xa_cons xe_str (xa_cons (xe_var 3 (pv 3)) (xa_cons (xe_var 4 (pv 4)) xa_nil)))) (xa_cons (xe_tup (xa_cons xe_str xa_nil)) xa_nil))))))) kx.nd rfl (by first | exact .inl rfl | exact .inr rfl)) (xss_one (xs_ret (xe_ix rfl (xp_var 5 (pv 5)) (xp_var 6 (pv 6)) (fun _ _ => rfl))))))))))

/-! ### _law_ds_begun -/
abbrev N__law_ds_begun : List Str := ["_law_opening_here"]
abbrev P__law_ds_begun : List Str := ["_law_opening_here"]
def s__law_ds_begun : E Fl := (sRet (eb (eLst (aC (bO dIx (ePk 0) (ep (.int 0))) (aC (ep (.int 0)) (aC (ep (.bl true)) (aC (fNewD [] []) (aC (oP (eLst aN)) (aC (bO dIx (ePk 0) (ep (.int 1))) aN))))))) fNewL))
def m__law_ds_begun : List D → E0 D := dF 1 s__law_ds_begun
theorem me__law_ds_begun (a0 : D) (Q : D → Zs → Prop) (X : Er → Zs → Prop) (z : Zs) : m__law_ds_begun [a0] Q X z = s__law_ds_begun [Sl.fr a0] (outF Q) (fun e _ z => X e z) z := rfl
theorem sc__law_ds_begun : FnScope N__law_ds_begun P__law_ds_begun (defScope (top 44)) := ⟨rfl, rfl, rfl, by decide +kernel, rfl, by decide +kernel, by decide +kernel⟩
theorem ok__law_ds_begun (B : Ctx P w K mg base) : ∃ fd, GFn P w K mg base "_law_ds_begun" 1 (He.fAd K ("_law_ds_begun", none)) fd P__law_ds_begun (spF K mg 1 m__law_ds_begun) := by
  obtain ⟨fd, F⟩ := B.2.2.1.def_ 43 (d := d44) rfl
  refine ⟨fd, ⟨fnF_of (k := 0) F sc__law_ds_begun fun cdv A outer s H E pa F0 kx => ?_, mg__law_ds_begun B, F.kp, bg_pos (F.bindsN fun _ _ _ _ _ _ us hl => match us, hl with | [_], _ => rfl)⟩⟩
  exact (xss_one (xs_ret (xe_cellL (xo_lst (xa_cons (xe_ix rfl (xp_var 0 (pv 0)) (XE.p xe_int) (fun _ _ => rfl)) (xa_cons xe_int (xa_cons xe_bl (xa_cons xe_cellD0 (xa_cons (XO.fz (xo_lst xa_nil)) (xa_cons (xe_ix rfl (xp_var 0 (pv 0)) (XE.p xe_int) (fun _ _ => rfl)) xa_nil))))))))))

/-! ### _law_ds_room -/
abbrev N__law_ds_room : List Str := ["_law_line"]
abbrev P__law_ds_room : List Str := ["_law_line"]
def s__law_ds_room : E Fl := (sRet (eIf (tV (bZ dIx (ePk 0) (ep (.int 2)))) (bO dSub (bZ dIx (ePk 0) (ep (.int 5))) (bZ dIx (ePk 0) (ep (.int 1)))) (bZ dIx (ePk 0) (ep (.int 1)))))
def m__law_ds_room : List D → E0 D := dF 1 s__law_ds_room
theorem me__law_ds_room (a0 : D) (Q : D → Zs → Prop) (X : Er → Zs → Prop) (z : Zs) : m__law_ds_room [a0] Q X z = s__law_ds_room [Sl.fr a0] (outF Q) (fun e _ z => X e z) z := rfl
theorem sc__law_ds_room : FnScope N__law_ds_room P__law_ds_room (defScope (top 45)) := ⟨rfl, rfl, rfl, by decide +kernel, rfl, by decide +kernel, by decide +kernel⟩
theorem ok__law_ds_room (B : Ctx P w K mg base) : ∃ fd, GFn P w K mg base "_law_ds_room" 1 (He.fAd K ("_law_ds_room", none)) fd P__law_ds_room (spF K mg 1 m__law_ds_room) := by
  obtain ⟨fd, F⟩ := B.2.2.1.def_ 44 (d := d45) rfl
  refine ⟨fd, ⟨fnF_of (k := 0) F sc__law_ds_room fun cdv A outer s H E pa F0 kx => ?_, mg__law_ds_room B, F.kp, bg_pos (F.bindsN fun _ _ _ _ _ _ us hl => match us, hl with | [_], _ => rfl)⟩⟩
  exact (xss_one (xs_ret (xe_if (xt_tru rfl (XE.p (xe_ixZ rfl (xp_var 0 (pv 0)) (XE.p xe_int) (fun _ _ => rfl)))) (xe_op op_sub (o_sub) (XE.p (xe_ixZ rfl (xp_var 0 (pv 0)) (XE.p xe_int) (fun _ _ => rfl))) (XE.p (xe_ixZ rfl (xp_var 0 (pv 0)) (XE.p xe_int) (fun _ _ => rfl)))) (xe_ixZ rfl (xp_var 0 (pv 0)) (XE.p xe_int) (fun _ _ => rfl)))))

/-! ### _law_ds_why -/
abbrev N__law_ds_why : List Str := ["_law_line", "_law_act", "_law_word", "_law_room", "_law_label"]
abbrev P__law_ds_why : List Str := ["_law_line", "_law_act"]
def p0__law_ds_why (ρ : Rho) (Q : Fl → Rho → Zs → Prop) (X : Er → Rho → Zs → Prop) (z : Zs) : Prop := (sIf (eT (bZ (dHas true) (ePk 4) (bZ dIx (ePk 0) (ep (.int 3)))))
    (sRetO (eLst (aC (eTup (aC (ep (.str "unmarked")) (aC (eVar 4) aN))) aN)))
    (ep .nx)) ρ Q X z
def s__law_ds_why : E Fl := (sSeq (sPar 2 3 (aC (bO dIx (ePk 1) (ep (.int 0))) (aC (eCall 1 1 0 m__law_ds_room gL (aC (eVar 0) aN) aN) aN)))
    (sSeq (sIf (eAnd (eT (bO dEq (ePk 2) (ep (.str "steps")))) (eT (bO dGt (bO dMul (bO dIx (ePk 1) (ep (.int 1))) (bZ dIx (ePk 0) (ep (.int 0)))) (ePk 3))))
    (sRetO (eLst (aC (ep (.str "beyond")) aN)))
    (ep .nx))
    (sSeq (sIf (eAnd (eT (bO dEq (ePk 2) (ep (.str "gap")))) (eT (bO dEq (ePk 3) (ep (.int 0)))))
    (sRetO (eLst (aC (ep (.str "nothing")) aN)))
    (ep .nx))
    (sSeq (sIf (eT (bO dInX (ePk 2) (eTup (aC (ep (.str "go")) (aC (ep (.str "span")) aN)))))
    (sFor (eb (eb (ePk 1) fun d => eb (eb (ep (.int 1)) fPart) fun lo => eb (ep none) fun hi => fSlE d lo hi) fSeqI) (gN 4) p0__law_ds_why)
    (ep .nx))
    (sSeq (sIf (eAnd (eT (bO dEq (ePk 2) (ep (.str "span")))) (eT (bO dEq (bZ dGet (bZ dIx (ePk 0) (ep (.int 3))) (bO dIx (ePk 1) (ep (.int 1)))) (bZ dGet (bZ dIx (ePk 0) (ep (.int 3))) (bO dIx (ePk 1) (ep (.int 2)))))))
    (sRetO (eLst (aC (ep (.str "nothing")) aN)))
    (ep .nx))
    (sRetO (eLst aN)))))))
def m__law_ds_why : List D → E0 (List D) := dO 5 s__law_ds_why
theorem me__law_ds_why (a0 a1 : D) (Q : List D → Zs → Prop) (X : Er → Zs → Prop) (z : Zs) : m__law_ds_why [a0, a1] Q X z = s__law_ds_why [Sl.fr a0, Sl.fr a1, Sl.no, Sl.no, Sl.no] (outO Q) (fun e _ z => X e z) z := rfl
theorem sc__law_ds_why : FnScope N__law_ds_why P__law_ds_why (defScope (top 46)) := ⟨rfl, rfl, rfl, by decide +kernel, rfl, by decide +kernel, by decide +kernel⟩
theorem ok__law_ds_why (B : Ctx P w K mg base) : ∃ fd, GFn P w K mg base "_law_ds_why" 2 (He.fAd K ("_law_ds_why", none)) fd P__law_ds_why (spO K mg 2 m__law_ds_why) := by
  obtain ⟨fd, F⟩ := B.2.2.1.def_ 45 (d := d46) rfl
  obtain ⟨fd__law_ds_room, g__law_ds_room⟩ := ok__law_ds_room B
  refine ⟨fd, ⟨fnO_of (k := 1) F sc__law_ds_why fun cdv A outer s H E pa F0 kx => ?_, mg__law_ds_why B, F.kp, bg_pos (F.bindsN fun _ _ _ _ _ _ us hl => match us, hl with | [_, _], _ => rfl)⟩⟩
  exact (xss_cons (xs_par 2 3 kx.calm kx.nd rfl rfl (by decide) rfl rfl (xa_cons (xe_ix rfl (xp_var 1 (pv 1)) (XE.p xe_int) (fun _ _ => rfl)) (xa_cons (xe_call g__law_ds_room.g kx (by omega) g__law_ds_room.bg rfl (xa_cons (xe_var 0 (pv 0)) xa_nil)) xa_nil)) rfl) (xss_cons (xs_if (XW.t (xw_and (xt_cmp (op_eq2 kx.hu) o_eq (xp_var 2 (pv 2)) (XE.p xe_str) rfl) (xw_and1 (xt_cmp op_gt o_gt (XE.p (xe_op op_mulG (o_mul) (XE.p (xe_ix rfl (xp_var 1 (pv 1)) (XE.p xe_int) (fun _ _ => rfl))) (XE.p (xe_ixZ rfl (xp_var 0 (pv 0)) (XE.p xe_int) (fun _ _ => rfl))))) (xp_var 3 (pv 3)) rfl)))) (xss_one (xs_retO (xo_lst (xa_cons xe_str xa_nil)))) xss_nil) (xss_cons (xs_if (XW.t (xw_and (xt_cmp (op_eq2 kx.hu) o_eq (xp_var 2 (pv 2)) (XE.p xe_str) rfl) (xw_and1 (xt_cmp (op_eq2 kx.hu) o_eq (xp_var 3 (pv 3)) (XE.p xe_int) rfl)))) (xss_one (xs_retO (xo_lst (xa_cons xe_str xa_nil)))) xss_nil) (xss_cons (xs_if (xt_cmp op_in_seq (by rw [kx.hK]; exact o_inX) (xp_var 2 (pv 2)) (XE.p (xe_tup (xa_cons xe_str (xa_cons xe_str xa_nil)))) rfl) (xss_one (xs_for kx (xi_seq rfl (xe_slice rfl (xp_var 1 (pv 1)) (xpt_some (XE.p xe_int)) xpt_none)) (xg_name 4 (pg_name kx.nd rfl (by first | exact .inl rfl | exact .inr rfl))) (xss_one (xs_if (xt_dnotZ kx (xp_var 4 (pv 4)) (XE.p (xe_ixZ rfl (xp_var 0 (pv 0)) (XE.p xe_int) (fun _ _ => rfl)))) (xss_one (xs_retO (xo_lst (xa_cons (xe_tup (xa_cons xe_str (xa_cons (xe_var 4 (pv 4)) xa_nil))) xa_nil)))) xss_nil)))) xss_nil) (xss_cons (xs_if (XW.t (xw_and (xt_cmp (op_eq2 kx.hu) o_eq (xp_var 2 (pv 2)) (XE.p xe_str) rfl) (xw_and1 (xt_cmp (op_eq2 kx.hu) o_eq (XE.p (xe_dgetZ kx (XE.p (xe_ixZ rfl (xp_var 0 (pv 0)) (XE.p xe_int) (fun _ _ => rfl))) (XE.p (xe_ix rfl (xp_var 1 (pv 1)) (XE.p xe_int) (fun _ _ => rfl))) (fun _ _ => rfl))) (XE.p (xe_dgetZ kx (XE.p (xe_ixZ rfl (xp_var 0 (pv 0)) (XE.p xe_int) (fun _ _ => rfl))) (XE.p (xe_ix rfl (xp_var 1 (pv 1)) (XE.p xe_int) (fun _ _ => rfl))) (fun _ _ => rfl))) rfl)))) (xss_one (xs_retO (xo_lst (xa_cons xe_str xa_nil)))) xss_nil) (xss_one (xs_retO (xo_lst xa_nil))))))))

/-! ### _law_ds_done -/
abbrev N__law_ds_done : List Str := ["_law_line", "_law_act", "_law_word", "_law_room", "_law_count"]
abbrev P__law_ds_done : List Str := ["_law_line", "_law_act"]
def s__law_ds_done : E Fl := (sSeq (sPar 2 3 (aC (bO dIx (ePk 1) (ep (.int 0))) (aC (eCall 1 1 0 m__law_ds_room gL (aC (eVar 0) aN) aN) aN)))
    (sSeq (sIf (eT (bO dInX (ePk 2) (eTup (aC (ep (.str "steps")) (aC (ep (.str "fill")) aN)))))
    (sSeq (sAsg (eIf (eT (bO dEq (ePk 2) (ep (.str "steps")))) (bO dIx (ePk 1) (ep (.int 1))) (bO dMin (bO dIx (ePk 1) (ep (.int 1))) (bO dDiv (ePk 3) (bZ dIx (ePk 0) (ep (.int 0)))))) (gN 4))
    (sSeq (sSetC fSetL (bO dAdd (bZ dIx (ePk 0) (ep (.int 1))) (bO dMul (bO dMul (bO dIx (oP (eLst (aC (bO dSub (ep (.int 0)) (ep (.int 1))) (aC (ep (.int 1)) aN)))) (uO dInt (bZ dIx (ePk 0) (ep (.int 2))))) (ePk 4)) (bZ dIx (ePk 0) (ep (.int 0))))) (eVar 0) (ep (.int 1)))
    (sSeq (sIf (eT (bO dEq (ePk 2) (ep (.str "steps"))))
    (sRet (ep .non))
    (ep .nx))
    (sSeq (sSetC fSetL (oP (bC (bZ dIx (ePk 0) (ep (.int 4))) (oP (eLst (aC (eVar 4) aN))))) (eVar 0) (ep (.int 4)))
    (sRet (eVar 4))))))
    (ep .nx))
    (sSeq (sIf (eT (bO dInX (ePk 2) (eTup (aC (ep (.str "left")) (aC (ep (.str "right")) aN)))))
    (sSeq (sSetC fSetL (eIf (eT (bO dEq (ePk 2) (ep (.str "left")))) (ep (.int 0)) (bZ dIx (ePk 0) (ep (.int 5)))) (eVar 0) (ep (.int 1)))
    (sSetC fSetL (bO dEq (ePk 2) (ep (.str "left"))) (eVar 0) (ep (.int 2))))
    (sIf (eT (bO dEq (ePk 2) (ep (.str "turn"))))
    (sSetC fSetL (uO dNot (bZ dIx (ePk 0) (ep (.int 2)))) (eVar 0) (ep (.int 2)))
    (sIf (eT (bO dEq (ePk 2) (ep (.str "gap"))))
    (sSetC fSetL (eVar 3) (eVar 0) (ep (.int 0)))
    (sIf (eT (bO dEq (ePk 2) (ep (.str "span"))))
    (sSetC fSetL (uO dAbs (bO dSub (bZ dGet (bZ dIx (ePk 0) (ep (.int 3))) (bO dIx (ePk 1) (ep (.int 1)))) (bZ dGet (bZ dIx (ePk 0) (ep (.int 3))) (bO dIx (ePk 1) (ep (.int 2)))))) (eVar 0) (ep (.int 0)))
    (sIf (eT (bO dEq (ePk 2) (ep (.str "mark"))))
    (sSetC fSetD (bZ dIx (ePk 0) (ep (.int 1))) (bZ dIx (ePk 0) (ep (.int 3))) (bO dIx (ePk 1) (ep (.int 1))))
    (sIf (eT (bO dEq (ePk 2) (ep (.str "go"))))
    (sSetC fSetL (bZ dGet (bZ dIx (ePk 0) (ep (.int 3))) (bO dIx (ePk 1) (ep (.int 1)))) (eVar 0) (ep (.int 1)))
    (ep .nx)))))))
    (sRet (eIf (eT (bO dEq (ePk 2) (ep (.str "rest")))) (bO dEq (ePk 3) (ep (.int 0))) (ep .non))))))
def m__law_ds_done : List D → E0 D := dF 5 s__law_ds_done
theorem me__law_ds_done (a0 a1 : D) (Q : D → Zs → Prop) (X : Er → Zs → Prop) (z : Zs) : m__law_ds_done [a0, a1] Q X z = s__law_ds_done [Sl.fr a0, Sl.fr a1, Sl.no, Sl.no, Sl.no] (outF Q) (fun e _ z => X e z) z := rfl
theorem sc__law_ds_done : FnScope N__law_ds_done P__law_ds_done (defScope (top 47)) := ⟨rfl, rfl, rfl, by decide +kernel, rfl, by decide +kernel, by decide +kernel⟩
theorem ok__law_ds_done (B : Ctx P w K mg base) : ∃ fd, GFn P w K mg base "_law_ds_done" 2 (He.fAd K ("_law_ds_done", none)) fd P__law_ds_done (spF K mg 2 m__law_ds_done) := by
  obtain ⟨fd, F⟩ := B.2.2.1.def_ 46 (d := d47) rfl
  obtain ⟨fd__law_ds_room, g__law_ds_room⟩ := ok__law_ds_room B
  have mb_abs := mbf_abs B
  have mb_int := mbf_int B
  have mb_min := mbf_min B
  refine ⟨fd, ⟨fnF_of (k := 1) F sc__law_ds_done fun cdv A outer s H E pa F0 kx => ?_, mg__law_ds_done B, F.kp, bg_pos (F.bindsN fun _ _ _ _ _ _ us hl => match us, hl with | [_, _], _ => rfl)⟩⟩
  exact (xss_cons (xs_par 2 3 kx.calm kx.nd rfl rfl (by decide) rfl rfl (xa_cons (xe_ix rfl (xp_var 1 (pv 1)) (XE.p xe_int) (fun _ _ => rfl)) (xa_cons (xe_call g__law_ds_room.g kx (by omega) g__law_ds_room.bg rfl (xa_cons (xe_var 0 (pv 0)) xa_nil)) xa_nil)) rfl) (xss_cons (xs_if (xt_cmp op_in_seq (by rw [kx.hK]; exact o_inX) (xp_var 2 (pv 2)) (XE.p (xe_tup (xa_cons xe_str (xa_cons xe_str xa_nil)))) rfl) (xss_cons (xs_set 4 (xe_if (xt_cmp (op_eq2 kx.hu) o_eq (xp_var 2 (pv 2)) (XE.p xe_str) rfl) (xe_ix rfl (xp_var 1 (pv 1)) (XE.p xe_int) (fun _ _ => rfl)) (xe_min2 kx rfl mb_min (XE.p (xe_ix rfl (xp_var 1 (pv 1)) (XE.p xe_int) (fun _ _ => rfl))) (XE.p (xe_op op_divG (o_div) (xp_var 3 (pv 3)) (XE.p (xe_ixZ rfl (xp_var 0 (pv 0)) (XE.p xe_int) (fun _ _ => rfl))))))) kx.nd rfl (by first | exact .inl rfl | exact .inr rfl)) (xss_cons (xs_setC (xe_var 0 (pv 0)) (xe_op op_add4 (o_add) (XE.p (xe_ixZ rfl (xp_var 0 (pv 0)) (XE.p xe_int) (fun _ _ => rfl))) (XE.p (xe_op op_mulG (o_mul) (XE.p (xe_op op_mulG (o_mul) (XE.p (xe_ix rfl (XO.p (xo_lst (xa_cons (xe_op op_sub (o_sub) (XE.p xe_int) (XE.p xe_int)) (xa_cons xe_int xa_nil)))) (XE.p (xe_int1 rfl mb_int (XE.p (xe_ixZ rfl (xp_var 0 (pv 0)) (XE.p xe_int) (fun _ _ => rfl))))) (fun _ _ => rfl))) (xp_var 4 (pv 4)))) (XE.p (xe_ixZ rfl (xp_var 0 (pv 0)) (XE.p xe_int) (fun _ _ => rfl)))))) xe_int) (xss_cons (xs_if (xt_cmp (op_eq2 kx.hu) o_eq (xp_var 2 (pv 2)) (XE.p xe_str) rfl) (xss_one (xs_ret xe_non)) xss_nil) (xss_cons (xs_setC (xe_var 0 (pv 0)) (XO.fz (xo_op op_add4 o_cat (XE.p (xe_ixZ rfl (xp_var 0 (pv 0)) (XE.p xe_int) (fun _ _ => rfl))) (XO.p (xo_lst (xa_cons (xe_var 4 (pv 4)) xa_nil))))) xe_int) (xss_one (xs_ret (xe_var 4 (pv 4)))))))) xss_nil) (xss_cons (xs_if (xt_cmp op_in_seq (by rw [kx.hK]; exact o_inX) (xp_var 2 (pv 2)) (XE.p (xe_tup (xa_cons xe_str (xa_cons xe_str xa_nil)))) rfl) (xss_cons (xs_setC (xe_var 0 (pv 0)) (xe_if (xt_cmp (op_eq2 kx.hu) o_eq (xp_var 2 (pv 2)) (XE.p xe_str) rfl) xe_int (xe_ixZ rfl (xp_var 0 (pv 0)) (XE.p xe_int) (fun _ _ => rfl))) xe_int) (xss_one (xs_setC (xe_var 0 (pv 0)) (xe_cmp (op_eq2 kx.hu) o_eq (xp_var 2 (pv 2)) (XE.p xe_str) rfl) xe_int))) (xss_one (xs_if (xt_cmp (op_eq2 kx.hu) o_eq (xp_var 2 (pv 2)) (XE.p xe_str) rfl) (xss_one (xs_setC (xe_var 0 (pv 0)) (xe_not (XE.p (xe_ixZ rfl (xp_var 0 (pv 0)) (XE.p xe_int) (fun _ _ => rfl)))) xe_int)) (xss_one (xs_if (xt_cmp (op_eq2 kx.hu) o_eq (xp_var 2 (pv 2)) (XE.p xe_str) rfl) (xss_one (xs_setC (xe_var 0 (pv 0)) (xe_var 3 (pv 3)) xe_int)) (xss_one (xs_if (xt_cmp (op_eq2 kx.hu) o_eq (xp_var 2 (pv 2)) (XE.p xe_str) rfl) (xss_one (xs_setC (xe_var 0 (pv 0)) (xe_abs rfl mb_abs (XE.p (xe_op op_sub (o_sub) (XE.p (xe_dgetZ kx (XE.p (xe_ixZ rfl (xp_var 0 (pv 0)) (XE.p xe_int) (fun _ _ => rfl))) (XE.p (xe_ix rfl (xp_var 1 (pv 1)) (XE.p xe_int) (fun _ _ => rfl))) (fun _ _ => rfl))) (XE.p (xe_dgetZ kx (XE.p (xe_ixZ rfl (xp_var 0 (pv 0)) (XE.p xe_int) (fun _ _ => rfl))) (XE.p (xe_ix rfl (xp_var 1 (pv 1)) (XE.p xe_int) (fun _ _ => rfl))) (fun _ _ => rfl)))))) xe_int)) (xss_one (xs_if (xt_cmp (op_eq2 kx.hu) o_eq (xp_var 2 (pv 2)) (XE.p xe_str) rfl) (xss_one (xs_setD kx (xe_ixZ rfl (xp_var 0 (pv 0)) (XE.p xe_int) (fun _ _ => rfl)) (xe_ixZ rfl (xp_var 0 (pv 0)) (XE.p xe_int) (fun _ _ => rfl)) (xe_ix rfl (xp_var 1 (pv 1)) (XE.p xe_int) (fun _ _ => rfl)))) (xss_one (xs_if (xt_cmp (op_eq2 kx.hu) o_eq (xp_var 2 (pv 2)) (XE.p xe_str) rfl) (xss_one (xs_setC (xe_var 0 (pv 0)) (xe_dgetZ kx (XE.p (xe_ixZ rfl (xp_var 0 (pv 0)) (XE.p xe_int) (fun _ _ => rfl))) (XE.p (xe_ix rfl (xp_var 1 (pv 1)) (XE.p xe_int) (fun _ _ => rfl))) (fun _ _ => rfl)) xe_int)) xss_nil))))))))))) (xss_one (xs_ret (xe_if (xt_cmp (op_eq2 kx.hu) o_eq (xp_var 2 (pv 2)) (XE.p xe_str) rfl) (xe_cmp (op_eq2 kx.hu) o_eq (xp_var 3 (pv 3)) (XE.p xe_int) rfl) xe_non))))))

/-! ### _law_ds_where -/
abbrev N__law_ds_where : List Str := ["_law_acts_here", "_law_opening_here", "_law_line", "_law_rank", "_law_act"]
abbrev P__law_ds_where : List Str := ["_law_acts_here", "_law_opening_here"]
def p0__law_ds_where (ρ : Rho) (Q : Fl → Rho → Zs → Prop) (X : Er → Rho → Zs → Prop) (z : Zs) : Prop := (sSeq (sIf (eT (bO dNe (oP (eCall 2 2 0 m__law_ds_why gL (aC (eVar 2) (aC (eVar 4) aN)) aN)) (oP (eLst aN))))
    (sRet (eVar 3))
    (ep .nx))
    (sIf (eT (bO dIsBX (eCall 2 2 0 m__law_ds_done gL (aC (eVar 2) (aC (eVar 4) aN)) aN) (ep (.bl true))))
    (sRet (eVar 3))
    (ep .nx))) ρ Q X z
def s__law_ds_where : E Fl := (sSeq (sAsg (eCall 1 1 0 m__law_ds_begun gL (aC (eVar 1) aN) aN) (gN 2))
    (sSeq (sFor (eb (aC (eVar 0) aN) fEnum) (gTp 2 (gCn (gN 3) (gCn (gN 4) gNl))) p0__law_ds_where)
    (sRet (uO dLen (ePk 0)))))
def m__law_ds_where : List D → E0 D := dF 5 s__law_ds_where
theorem me__law_ds_where (a0 a1 : D) (Q : D → Zs → Prop) (X : Er → Zs → Prop) (z : Zs) : m__law_ds_where [a0, a1] Q X z = s__law_ds_where [Sl.fr a0, Sl.fr a1, Sl.no, Sl.no, Sl.no] (outF Q) (fun e _ z => X e z) z := rfl
theorem sc__law_ds_where : FnScope N__law_ds_where P__law_ds_where (defScope (top 48)) := ⟨rfl, rfl, rfl, by decide +kernel, rfl, by decide +kernel, by decide +kernel⟩
theorem ok__law_ds_where (B : Ctx P w K mg base) : ∃ fd, GFn P w K mg base "_law_ds_where" 3 (He.fAd K ("_law_ds_where", none)) fd P__law_ds_where (spF K mg 2 m__law_ds_where) := by
  obtain ⟨fd, F⟩ := B.2.2.1.def_ 47 (d := d48) rfl
  obtain ⟨fd__law_ds_done, g__law_ds_done⟩ := ok__law_ds_done B
  obtain ⟨fd__law_ds_why, g__law_ds_why⟩ := ok__law_ds_why B
  obtain ⟨fd__law_ds_begun, g__law_ds_begun⟩ := ok__law_ds_begun B
  have mb_enumerate := mbf_enumerate B
  have mb_len := mbf_len B
  refine ⟨fd, ⟨fnF_of (k := 2) F sc__law_ds_where fun cdv A outer s H E pa F0 kx => ?_, mg__law_ds_where B, F.kp, bg_pos (F.bindsN fun _ _ _ _ _ _ us hl => match us, hl with | [_, _], _ => rfl)⟩⟩
  exact (xss_cons (xs_set 2 (xe_call g__law_ds_begun.g kx (by omega) g__law_ds_begun.bg rfl (xa_cons (xe_var 1 (pv 1)) xa_nil)) kx.nd rfl (by first | exact .inl rfl | exact .inr rfl)) (xss_cons (xs_for kx (xi_enum rfl (xa_cons (xe_var 0 (pv 0)) xa_nil) rfl mb_enumerate) (xg_tup rfl kx.calm (xgs_cons (xg_name 3 (pg_name kx.nd rfl (by first | exact .inl rfl | exact .inr rfl))) (xgs_cons (xg_name 4 (pg_name kx.nd rfl (by first | exact .inl rfl | exact .inr rfl))) xgs_nil))) (xss_cons (xs_if (xt_cmp (op_ne2 kx.hu) o_ne (XO.p (xo_call g__law_ds_why.g kx (by omega) g__law_ds_why.bg rfl (xa_cons (xe_var 2 (pv 2)) (xa_cons (xe_var 4 (pv 4)) xa_nil)))) (XO.p (xo_lst xa_nil)) rfl) (xss_one (xs_ret (xe_var 3 (pv 3)))) xss_nil) (xss_one (xs_if (xt_cmp op_isBX o_isBX (XE.p (xe_call g__law_ds_done.g kx (by omega) g__law_ds_done.bg rfl (xa_cons (xe_var 2 (pv 2)) (xa_cons (xe_var 4 (pv 4)) xa_nil)))) (XE.p xe_bl) rfl) (xss_one (xs_ret (xe_var 3 (pv 3)))) xss_nil)))) (xss_one (xs_ret (xe_len rfl rfl mb_len (xp_var 0 (pv 0)))))))

/-! ### _law_ds_values -/
abbrev N__law_ds_values : List Str := ["_law_end", "_law_pair"]
abbrev P__law_ds_values : List Str := ["_law_end"]
def p0__law_ds_values (ρ : Rho) (Q : D → Rho → Zs → Prop) (X : Er → Rho → Zs → Prop) (z : Zs) : Prop := (bO dIx (ePk 1) (ep (.int 1))) ρ Q X z
def s__law_ds_values : E Fl := (sRetO (eIf (eT (bO dEq (bO dIx (ePk 0) (ep (.int 0))) (ep (.str "failed")))) (eLst aN) (bC (oP (eLst (aC (bO dIx (ePk 0) (ep (.int 1))) (aC (bO dIx (ePk 0) (ep (.int 2))) aN)))) (oP (eLc [1] (eb (bO dIx (ePk 0) (ep (.int 3))) fSeqI) (gN 1) (ep true) p0__law_ds_values)))))
def m__law_ds_values : List D → E0 (List D) := dO 2 s__law_ds_values
theorem me__law_ds_values (a0 : D) (Q : List D → Zs → Prop) (X : Er → Zs → Prop) (z : Zs) : m__law_ds_values [a0] Q X z = s__law_ds_values [Sl.fr a0, Sl.no] (outO Q) (fun e _ z => X e z) z := rfl
theorem sc__law_ds_values : FnScope N__law_ds_values P__law_ds_values (defScope (top 49)) := ⟨rfl, rfl, rfl, by decide +kernel, rfl, by decide +kernel, by decide +kernel⟩
theorem ok__law_ds_values (B : Ctx P w K mg base) : ∃ fd, GFn P w K mg base "_law_ds_values" 1 (He.fAd K ("_law_ds_values", none)) fd P__law_ds_values (spO K mg 1 m__law_ds_values) := by
  obtain ⟨fd, F⟩ := B.2.2.1.def_ 48 (d := d49) rfl
  refine ⟨fd, ⟨fnO_of (k := 0) F sc__law_ds_values fun cdv A outer s H E pa F0 kx => ?_, mg__law_ds_values B, F.kp, bg_pos (F.bindsN fun _ _ _ _ _ _ us hl => match us, hl with | [_], _ => rfl)⟩⟩
  exact (xss_one (xs_retO (xo_if (xt_cmp (op_eq2 kx.hu) o_eq (XE.p (xe_ix rfl (xp_var 0 (pv 0)) (XE.p xe_int) (fun _ _ => rfl))) (XE.p xe_str) rfl) (xo_lst xa_nil) (xo_op op_add4 o_cat (XO.p (xo_lst (xa_cons (xe_ix rfl (xp_var 0 (pv 0)) (XE.p xe_int) (fun _ _ => rfl)) (xa_cons (xe_ix rfl (xp_var 0 (pv 0)) (XE.p xe_int) (fun _ _ => rfl)) xa_nil)))) (XO.p (xo_lc (own := [("_law_pair", 1)]) kx (xi_seq rfl (xe_ix rfl (xp_var 0 (pv 0)) (XE.p xe_int) (fun _ _ => rfl))) (by kernel_rfl) (fun _ _ _ _ _ _ kx => (xg_name 1 (pg_name kx.nd rfl (by first | exact .inl rfl | exact .inr rfl)))) (fun _ _ _ _ _ _ kx => xts_nil) (fun _ _ _ _ _ _ kx => (xe_ix rfl (xp_var 1 (pv 1)) (XE.p xe_int) (fun _ _ => rfl))) (by decide)))))))

/-! ### _law_ds_straight -/
abbrev N__law_ds_straight : List Str := ["_law_three", "_law_part", "_law_whole", "_law_rank", "_law_first", "_law_second", "_law_third", "_law_low", "_law_middle", "_law_high", "_law_left", "_law_one", "_law_two", "_law_six"]
abbrev P__law_ds_straight : List Str := ["_law_three"]
def p0__law_ds_straight (ρ : Rho) (Q : Fl → Rho → Zs → Prop) (X : Er → Rho → Zs → Prop) (z : Zs) : Prop := (sSeq (sPar3 11 12 13 (aC (bO dIx (ePk 4) (ePk 3)) (aC (bO dIx (ePk 5) (ePk 3)) (aC (bO dIx (ePk 6) (ePk 3)) aN))))
    (sSeq (sAsg (bO dMul (bO dMul (bO dSub (bO dMul (bO dIx (ePk 12) (ep (.int 0))) (bO dIx (ePk 11) (ep (.int 1)))) (bO dMul (bO dIx (ePk 11) (ep (.int 0))) (bO dIx (ePk 12) (ep (.int 1))))) (bO dIx (ePk 13) (ep (.int 1)))) (ePk 2)) (gN 10))
    (sIf (eT (bO dNe (ePk 10) (bO dMul (bO dMul (bO dSub (bO dMul (bO dIx (ePk 13) (ep (.int 0))) (bO dIx (ePk 11) (ep (.int 1)))) (bO dMul (bO dIx (ePk 11) (ep (.int 0))) (bO dIx (ePk 13) (ep (.int 1))))) (bO dIx (ePk 12) (ep (.int 1)))) (ePk 1))))
    (sRet (ep (.bl false)))
    (ep .nx)))) ρ Q X z
def p1__law_ds_straight (ρ : Rho) (Q : D → Rho → Zs → Prop) (X : Er → Rho → Zs → Prop) (z : Zs) : Prop := (bO dIx (ePk 11) (ep (.int 0))) ρ Q X z
def p2__law_ds_straight (ρ : Rho) (Q : D → Rho → Zs → Prop) (X : Er → Rho → Zs → Prop) (z : Zs) : Prop := (oP (eCall 1 1 0 m__law_ds_values gL (aC (bO dIx (ePk 11) (ep (.int 1))) aN) aN)) ρ Q X z
def s__law_ds_straight : E Fl := (sSeq (sAsg (oP (eLc [11] (eb (eVar 0) fSeqI) (gN 11) (ep true) p2__law_ds_straight)) (gTp 3 (gCn (gN 4) (gCn (gN 5) (gCn (gN 6) gNl)))))
    (sSeq (sIf (eOr (eT (bO dNe (uO dLen (ePk 4)) (uO dLen (ePk 5)))) (eT (bO dNe (uO dLen (ePk 4)) (uO dLen (ePk 6)))))
    (sRet (ep (.bl false)))
    (ep .nx))
    (sSeq (sAsg (oP (eLc [11] (eb (eVar 0) fSeqI) (gN 11) (ep true) p1__law_ds_straight)) (gTp 3 (gCn (gN 7) (gCn (gN 8) (gCn (gN 9) gNl)))))
    (sSeq (sAsg (bO dMul (bO dSub (bO dMul (bO dIx (ePk 8) (ep (.int 0))) (bO dIx (ePk 7) (ep (.int 1)))) (bO dMul (bO dIx (ePk 7) (ep (.int 0))) (bO dIx (ePk 8) (ep (.int 1))))) (bO dIx (ePk 9) (ep (.int 1)))) (gN 1))
    (sSeq (sAsg (bO dMul (bO dSub (bO dMul (bO dIx (ePk 9) (ep (.int 0))) (bO dIx (ePk 7) (ep (.int 1)))) (bO dMul (bO dIx (ePk 7) (ep (.int 0))) (bO dIx (ePk 9) (ep (.int 1))))) (bO dIx (ePk 8) (ep (.int 1)))) (gN 2))
    (sSeq (sFor (eb (aC (uO dLen (ePk 4)) aN) fRng1) (gN 3) p0__law_ds_straight)
    (sRet (ep (.bl true)))))))))
def m__law_ds_straight : List D → E0 D := dF 14 s__law_ds_straight
theorem me__law_ds_straight (a0 : D) (Q : D → Zs → Prop) (X : Er → Zs → Prop) (z : Zs) : m__law_ds_straight [a0] Q X z = s__law_ds_straight [Sl.fr a0, Sl.no, Sl.no, Sl.no, Sl.no, Sl.no, Sl.no, Sl.no, Sl.no, Sl.no, Sl.no, Sl.no, Sl.no, Sl.no] (outF Q) (fun e _ z => X e z) z := rfl
theorem sc__law_ds_straight : FnScope N__law_ds_straight P__law_ds_straight (defScope (top 50)) := ⟨rfl, rfl, rfl, by decide +kernel, rfl, by decide +kernel, by decide +kernel⟩
theorem ok__law_ds_straight (B : Ctx P w K mg base) : ∃ fd, GFn P w K mg base "_law_ds_straight" 2 (He.fAd K ("_law_ds_straight", none)) fd P__law_ds_straight (spF K mg 1 m__law_ds_straight) := by
  obtain ⟨fd, F⟩ := B.2.2.1.def_ 49 (d := d50) rfl
  obtain ⟨fd__law_ds_values, g__law_ds_values⟩ := ok__law_ds_values B
  have mb_len := mbf_len B
  have mb_range := mbf_range B
  refine ⟨fd, ⟨fnF_of (k := 1) F sc__law_ds_straight fun cdv A outer s H E pa F0 kx => ?_, mg__law_ds_straight B, F.kp, bg_pos (F.bindsN fun _ _ _ _ _ _ us hl => match us, hl with | [_], _ => rfl)⟩⟩
  exact (xss_cons (xs_asg (XO.fz (xo_lc (own := [("_law_one", 11)]) kx (xi_seq rfl (xe_var 0 (pv 0))) (by kernel_rfl) (fun _ _ _ _ _ _ kx => (xg_name 11 (pg_name kx.nd rfl (by first | exact .inl rfl | exact .inr rfl)))) (fun _ _ _ _ _ _ kx => xts_nil) (fun _ _ _ _ _ _ kx => (XO.fz (xo_call g__law_ds_values.g kx (by omega) g__law_ds_values.bg rfl (xa_cons (xe_ix rfl (xp_var 11 (pv 11)) (XE.p xe_int) (fun _ _ => rfl)) xa_nil)))) (by decide))) (xg_tup rfl kx.calm (xgs_cons (xg_name 4 (pg_name kx.nd rfl (by first | exact .inl rfl | exact .inr rfl))) (xgs_cons (xg_name 5 (pg_name kx.nd rfl (by first | exact .inl rfl | exact .inr rfl))) (xgs_cons (xg_name 6 (pg_name kx.nd rfl (by first | exact .inl rfl | exact .inr rfl))) xgs_nil))))) (xss_cons (xs_if (XW.t (xw_or (xt_cmp (op_ne2 kx.hu) o_ne (XE.p (xe_len rfl rfl mb_len (xp_var 4 (pv 4)))) (XE.p (xe_len rfl rfl mb_len (xp_var 5 (pv 5)))) rfl) (xw_or1 (xt_cmp (op_ne2 kx.hu) o_ne (XE.p (xe_len rfl rfl mb_len (xp_var 4 (pv 4)))) (XE.p (xe_len rfl rfl mb_len (xp_var 6 (pv 6)))) rfl)))) (xss_one (xs_ret xe_bl)) xss_nil) (xss_cons (xs_asg (XO.fz (xo_lc (own := [("_law_one", 11)]) kx (xi_seq rfl (xe_var 0 (pv 0))) (by kernel_rfl) (fun _ _ _ _ _ _ kx => (xg_name 11 (pg_name kx.nd rfl (by first | exact .inl rfl | exact .inr rfl)))) (fun _ _ _ _ _ _ kx => xts_nil) (fun _ _ _ _ _ _ kx => (xe_ix rfl (xp_var 11 (pv 11)) (XE.p xe_int) (fun _ _ => rfl))) (by decide))) (xg_tup rfl kx.calm (xgs_cons (xg_name 7 (pg_name kx.nd rfl (by first | exact .inl rfl | exact .inr rfl))) (xgs_cons (xg_name 8 (pg_name kx.nd rfl (by first | exact .inl rfl | exact .inr rfl))) (xgs_cons (xg_name 9 (pg_name kx.nd rfl (by first | exact .inl rfl | exact .inr rfl))) xgs_nil))))) (xss_cons (xs_set 1 (xe_op op_mulG (o_mul) (XE.p (xe_op op_sub (o_sub) (XE.p (xe_op op_mulG (o_mul) (XE.p (xe_ix rfl (xp_var 8 (pv 8)) (XE.p xe_int) (fun _ _ => rfl))) (XE.p (xe_ix rfl (xp_var 7 (pv 7)) (XE.p xe_int) (fun _ _ => rfl))))) (XE.p (xe_op op_mulG (o_mul) (XE.p (xe_ix rfl (xp_var 7 (pv 7)) (XE.p xe_int) (fun _ _ => rfl))) (XE.p (xe_ix rfl (xp_var 8 (pv 8)) (XE.p xe_int) (fun _ _ => rfl))))))) (XE.p (xe_ix rfl (xp_var 9 (pv 9)) (XE.p xe_int) (fun _ _ => rfl)))) kx.nd rfl (by first | exact .inl rfl | exact .inr rfl)) (xss_cons (xs_set 2 (xe_op op_mulG (o_mul) (XE.p (xe_op op_sub (o_sub) (XE.p (xe_op op_mulG (o_mul) (XE.p (xe_ix rfl (xp_var 9 (pv 9)) (XE.p xe_int) (fun _ _ => rfl))) (XE.p (xe_ix rfl (xp_var 7 (pv 7)) (XE.p xe_int) (fun _ _ => rfl))))) (XE.p (xe_op op_mulG (o_mul) (XE.p (xe_ix rfl (xp_var 7 (pv 7)) (XE.p xe_int) (fun _ _ => rfl))) (XE.p (xe_ix rfl (xp_var 9 (pv 9)) (XE.p xe_int) (fun _ _ => rfl))))))) (XE.p (xe_ix rfl (xp_var 8 (pv 8)) (XE.p xe_int) (fun _ _ => rfl)))) kx.nd rfl (by first | exact .inl rfl | exact .inr rfl)) (xss_cons (xs_for kx (xi_range1 (xa_cons (xe_len rfl rfl mb_len (xp_var 4 (pv 4))) xa_nil) rfl mb_range) (xg_name 3 (pg_name kx.nd rfl (by first | exact .inl rfl | exact .inr rfl))) (xss_cons (xs_par3 11 12 13 kx rfl rfl rfl (by decide) (by decide) (by decide) rfl rfl rfl (xa_cons (xe_ix rfl (xp_var 4 (pv 4)) (xp_var 3 (pv 3)) (fun _ _ => rfl)) (xa_cons (xe_ix rfl (xp_var 5 (pv 5)) (xp_var 3 (pv 3)) (fun _ _ => rfl)) (xa_cons (xe_ix rfl (xp_var 6 (pv 6)) (xp_var 3 (pv 3)) (fun _ _ => rfl)) xa_nil))) rfl) (xss_cons (xs_set 10 (xe_op op_mulG (o_mul) (XE.p (xe_op op_mulG (o_mul) (XE.p (xe_op op_sub (o_sub) (XE.p (xe_op op_mulG (o_mul) (XE.p (xe_ix rfl (xp_var 12 (pv 12)) (XE.p xe_int) (fun _ _ => rfl))) (XE.p (xe_ix rfl (xp_var 11 (pv 11)) (XE.p xe_int) (fun _ _ => rfl))))) (XE.p (xe_op op_mulG (o_mul) (XE.p (xe_ix rfl (xp_var 11 (pv 11)) (XE.p xe_int) (fun _ _ => rfl))) (XE.p (xe_ix rfl (xp_var 12 (pv 12)) (XE.p xe_int) (fun _ _ => rfl))))))) (XE.p (xe_ix rfl (xp_var 13 (pv 13)) (XE.p xe_int) (fun _ _ => rfl))))) (xp_var 2 (pv 2))) kx.nd rfl (by first | exact .inl rfl | exact .inr rfl)) (xss_one (xs_if (xt_cmp (op_ne2 kx.hu) o_ne (xp_var 10 (pv 10)) (XE.p (xe_op op_mulG (o_mul) (XE.p (xe_op op_mulG (o_mul) (XE.p (xe_op op_sub (o_sub) (XE.p (xe_op op_mulG (o_mul) (XE.p (xe_ix rfl (xp_var 13 (pv 13)) (XE.p xe_int) (fun _ _ => rfl))) (XE.p (xe_ix rfl (xp_var 11 (pv 11)) (XE.p xe_int) (fun _ _ => rfl))))) (XE.p (xe_op op_mulG (o_mul) (XE.p (xe_ix rfl (xp_var 11 (pv 11)) (XE.p xe_int) (fun _ _ => rfl))) (XE.p (xe_ix rfl (xp_var 13 (pv 13)) (XE.p xe_int) (fun _ _ => rfl))))))) (XE.p (xe_ix rfl (xp_var 12 (pv 12)) (XE.p xe_int) (fun _ _ => rfl))))) (xp_var 1 (pv 1)))) rfl) (xss_one (xs_ret xe_bl)) xss_nil))))) (xss_one (xs_ret xe_bl))))))))

/-! ### _law_ds_openings -/
abbrev N__law_ds_openings : List Str := ["_law_sack", "_law_turn", "_law_found", "_law_one", "_law_lower", "_law_more", "_law_spot", "_law_upper", "_law_two"]
abbrev P__law_ds_openings : List Str := ["_law_sack"]
def p0__law_ds_openings (ρ : Rho) (Q : D → Rho → Zs → Prop) (X : Er → Rho → Zs → Prop) (z : Zs) : Prop := (eVar 8) ρ Q X z
def p1__law_ds_openings (ρ : Rho) (Q : Bool → Rho → Zs → Prop) (X : Er → Rho → Zs → Prop) (z : Zs) : Prop := (eT (bO dLt (bO dMul (bO dIx (ePk 8) (ep (.int 0))) (bO dIx (ePk 3) (ep (.int 1)))) (bO dMul (bO dIx (ePk 3) (ep (.int 0))) (bO dIx (ePk 8) (ep (.int 1)))))) ρ Q X z
def p2__law_ds_openings (ρ : Rho) (Q : Fl → Rho → Zs → Prop) (X : Er → Rho → Zs → Prop) (z : Zs) : Prop := (sSeq (sAsg (uO dLen (oP (eLc [8] (eb (eVar 2) fSeqI) (gN 8) p1__law_ds_openings p0__law_ds_openings))) (gN 6))
    (sAsg (oP (bC (oP (bC (oP (eb (ePk 2) fun d => eb (ep none) fun lo => eb (eb (ePk 6) fPart) fun hi => fSlO d lo hi)) (oP (eLst (aC (eVar 3) aN))))) (oP (eb (ePk 2) fun d => eb (eb (ePk 6) fPart) fun lo => eb (ep none) fun hi => fSlO d lo hi)))) (gN 2))) ρ Q X z
def p3__law_ds_openings (ρ : Rho) (Q : D → Rho → Zs → Prop) (X : Er → Rho → Zs → Prop) (z : Zs) : Prop := (eCall 2 2 0 m__law_ds_ratio gL (aC (eVar 7) (aC (eVar 4) aN)) aN) ρ Q X z
def p4__law_ds_openings (ρ : Rho) (Q : Fl → Rho → Zs → Prop) (X : Er → Rho → Zs → Prop) (z : Zs) : Prop := (sApp 5 (eCall 2 2 0 m__law_ds_ratio gL (aC (bO dAdd (ep (.int 1)) (eCall 2 2 0 m__law_coin gL (aC (eVar 0) (aC (ep (.int 997)) aN)) aN)) (aC (ep (.int 997)) aN)) aN)) ρ Q X z
def s__law_ds_openings : E Fl := (sSeq (sParFO 4 5 (bO dAdd (ep (.int 1)) (eCall 2 2 0 m__law_coin gL (aC (eVar 0) (aC (ep (.int 24)) aN)) aN)) (eLst aN))
    (sSeq (sFor (eb (aC (ep (.int 4)) aN) fRng1) (gN 1) p4__law_ds_openings)
    (sSeq (sAsgO (eLc [7] (eb (aC (ep (.int 1)) (aC (bO dAdd (ePk 4) (ep (.int 1))) aN)) fRng2) (gN 7) (ep true) p3__law_ds_openings) 2)
    (sSeq (sFor (eb (eVar 5) fSeqI) (gN 3) p2__law_ds_openings)
    (sRet (eVar 2))))))
def m__law_ds_openings : List D → E0 D := dF 9 s__law_ds_openings
theorem me__law_ds_openings (a0 : D) (Q : D → Zs → Prop) (X : Er → Zs → Prop) (z : Zs) : m__law_ds_openings [a0] Q X z = s__law_ds_openings [Sl.fr a0, Sl.no, Sl.no, Sl.no, Sl.no, Sl.no, Sl.no, Sl.no, Sl.no] (outF Q) (fun e _ z => X e z) z := rfl
theorem sc__law_ds_openings : FnScope N__law_ds_openings P__law_ds_openings (defScope (top 51)) := ⟨rfl, rfl, rfl, by decide +kernel, rfl, by decide +kernel, by decide +kernel⟩
theorem ok__law_ds_openings (B : Ctx P w K mg base) : ∃ fd, GFn P w K mg base "_law_ds_openings" 2 (He.fAd K ("_law_ds_openings", none)) fd P__law_ds_openings (spF K mg 1 m__law_ds_openings) := by
  obtain ⟨fd, F⟩ := B.2.2.1.def_ 50 (d := d51) rfl
  obtain ⟨fd__law_ds_ratio, g__law_ds_ratio⟩ := ok__law_ds_ratio B
  obtain ⟨fd__law_coin, g__law_coin⟩ := ok__law_coin B
  have mb_len := mbf_len B
  have mb_range := mbf_range B
  refine ⟨fd, ⟨fnF_of (k := 1) F sc__law_ds_openings fun cdv A outer s H E pa F0 kx => ?_, mg__law_ds_openings B, F.kp, bg_pos (F.bindsN fun _ _ _ _ _ _ us hl => match us, hl with | [_], _ => rfl)⟩⟩
  exact (xss_cons (xs_parFO2 4 5 kx (pg_name kx.nd rfl (by first | exact .inl rfl | exact .inr rfl)) (pg_name kx.nd rfl (by first | exact .inl rfl | exact .inr rfl)) (by decide) (xe_op op_add4 (o_add) (XE.p xe_int) (XE.p (xe_call g__law_coin.g kx (by omega) g__law_coin.bg rfl (xa_cons (xe_var 0 (pv 0)) (xa_cons xe_int xa_nil))))) (xo_lst xa_nil) rfl) (xss_cons (xs_for kx (xi_range1 (xa_cons xe_int xa_nil) rfl mb_range) (xg_name 1 (pg_name kx.nd rfl (by first | exact .inl rfl | exact .inr rfl))) (xss_one (xs_app 5 kx (pv 5) (xe_call g__law_ds_ratio.g kx (by omega) g__law_ds_ratio.bg rfl (xa_cons (xe_op op_add4 (o_add) (XE.p xe_int) (XE.p (xe_call g__law_coin.g kx (by omega) g__law_coin.bg rfl (xa_cons (xe_var 0 (pv 0)) (xa_cons xe_int xa_nil))))) (xa_cons xe_int xa_nil)))))) (xss_cons (xs_setLcO 2 (own := [("_law_upper", 7)]) kx rfl rfl (xi_range2 (xa_cons xe_int (xa_cons (xe_op op_add4 (o_add) (xp_var 4 (pv 4)) (XE.p xe_int)) xa_nil)) rfl mb_range) (by kernel_rfl) (fun _ _ _ _ _ _ kx => (xg_name 7 (pg_name kx.nd rfl (by first | exact .inl rfl | exact .inr rfl)))) (fun _ _ _ _ _ _ kx => xts_nil) (fun _ _ _ _ _ _ kx => (xe_call g__law_ds_ratio.g kx (by omega) g__law_ds_ratio.bg rfl (xa_cons (xe_var 7 (pv 7)) (xa_cons (xe_var 4 (pv 4)) xa_nil)))) (by decide) rfl) (xss_cons (xs_for kx (xi_seq rfl (xe_var 5 (pv 5))) (xg_name 3 (pg_name kx.nd rfl (by first | exact .inl rfl | exact .inr rfl))) (xss_cons (xs_set 6 (xe_len rfl rfl mb_len (XO.p (xo_lc (own := [("_law_two", 8)]) kx (xi_seq rfl (xe_var 2 (pv 2))) (by kernel_rfl) (fun _ _ _ _ _ _ kx => (xg_name 8 (pg_name kx.nd rfl (by first | exact .inl rfl | exact .inr rfl)))) (fun _ _ _ _ _ _ kx => (xts_one (xt_cmp op_lt2 o_lt (XE.p (xe_op op_mulG (o_mul) (XE.p (xe_ix rfl (xp_var 8 (pv 8)) (XE.p xe_int) (fun _ _ => rfl))) (XE.p (xe_ix rfl (xp_var 3 (pv 3)) (XE.p xe_int) (fun _ _ => rfl))))) (XE.p (xe_op op_mulG (o_mul) (XE.p (xe_ix rfl (xp_var 3 (pv 3)) (XE.p xe_int) (fun _ _ => rfl))) (XE.p (xe_ix rfl (xp_var 8 (pv 8)) (XE.p xe_int) (fun _ _ => rfl))))) rfl))) (fun _ _ _ _ _ _ kx => (xe_var 8 (pv 8))) (by decide)))) kx.nd rfl (by first | exact .inl rfl | exact .inr rfl)) (xss_one (xs_set 2 (XO.fz (xo_op op_add4 o_cat (XO.p (xo_op op_add4 o_cat (XO.p (xo_slice rfl (xp_var 2 (pv 2)) xpt_none (xpt_some (xp_var 6 (pv 6))))) (XO.p (xo_lst (xa_cons (xe_var 3 (pv 3)) xa_nil))))) (XO.p (xo_slice rfl (xp_var 2 (pv 2)) (xpt_some (xp_var 6 (pv 6))) xpt_none)))) kx.nd rfl (by first | exact .inl rfl | exact .inr rfl))))) (xss_one (xs_ret (xe_var 2 (pv 2))))))))

/-! ### _law_right -/
abbrev N__law_right : List Str := ["_law_sack", "_law_great", "_law_turn", "_law_opening_here", "_law_labels", "_law_acts_here", "_law_act", "_law_made", "_law_groups", "_law_marks_here", "_law_mark", "_law_group", "_law_counts_here", "_law_end"]
abbrev P__law_right : List Str := ["_law_sack"]
def p0__law_right (ρ : Rho) (Q : Fl → Rho → Zs → Prop) (X : Er → Rho → Zs → Prop) (z : Zs) : Prop := (sSeq (sAsg (eCall 2 2 0 m_run gL (aC (eVar 7) (aC (eVar 3) aN)) aN) (gTp 2 (gCn (gN 12) (gCn (gN 13) gNl))))
    (sSeq (sAsg (uO dRepr (eTup (aC (eVar 12) (aC (bO dIx (ePk 13) (ep (.int 0))) (aC (eCall 2 2 0 m__law_ds_where gL (aC (eVar 5) (aC (eVar 3) aN)) aN) (aC (eIf (eT (bO dEq (bO dIx (ePk 13) (ep (.int 0))) (ep (.str "failed")))) (bO dIx (ePk 13) (ep (.int 2))) (ep (.str ""))) aN)))))) (gN 10))
    (sSeq (sIf (eOr (eT (bO dEq (ePk 9) (oP (eLst aN)))) (eT (bO dNe (bO dIx (ePk 9) (uO dNeg (ep (.int 1)))) (ePk 10))))
    (sSeq (sIf (eT (bO dIn (ePk 10) (ePk 9)))
    (sRet (ep (.bl false)))
    (ep .nx))
    (sSeq (sApp 9 (eVar 10))
    (sApp 8 (eb (eLst aN) fNewL))))
    (ep .nx))
    (sSeq (sAsg (bO dIx (ePk 8) (uO dNeg (ep (.int 1)))) (gN 11))
    (sSeq (eb (eVar 11) (fAppC (eTup (aC (eVar 3) (aC (eVar 13) aN)))))
    (sIf (eAnd (eT (bO dGt (uZ dLen (ePk 11)) (ep (.int 2)))) (tN (tV (eCall 1 1 0 m__law_ds_straight gL (aC (oP (eLst (aC (bZ dIx (ePk 11) (ep (.int 0))) (aC (bZ dIx (ePk 11) (bO dDiv (uZ dLen (ePk 11)) (ep (.int 2)))) (aC (bZ dIx (ePk 11) (uO dNeg (ep (.int 1)))) aN))))) aN) aN))))
    (sRet (ep (.bl false)))
    (ep .nx))))))) ρ Q X z
def p1__law_right (ρ : Rho) (Q : Fl → Rho → Zs → Prop) (X : Er → Rho → Zs → Prop) (z : Zs) : Prop := (sSeq (sAsg (eCall 3 3 0 m__law_ds_act gL (aC (eVar 0) (aC (eVar 4) (aC (eVar 1) aN))) aN) (gN 6))
    (sApp 5 (eIf (eT (bO dEq (bO dIx (ePk 6) (ep (.int 0))) (ep (.str "span")))) (eTup (aC (ep (.str "gap")) aN)) (eVar 6)))) ρ Q X z
def s__law_right : E Fl := (sSeq (sParFO 4 5 (oP (eCall 2 2 0 m__law_words gL (aC (eVar 0) (aC (bO dAdd (ep (.int 1)) (eCall 2 2 0 m__law_coin gL (aC (eVar 0) (aC (ep (.int 3)) aN)) aN)) aN)) aN)) (eLst aN))
    (sSeq (sAsg (bO dIx (oP (eLst (aC (ep (.int 3)) (aC (ep (.int 9)) aN)))) (eCall 2 2 0 m__law_coin gL (aC (eVar 0) (aC (ep (.int 2)) aN)) aN)) (gN 1))
    (sSeq (sFor (eb (aC (eCall 2 2 0 m__law_coin gL (aC (eVar 0) (aC (ep (.int 15)) aN)) aN) aN) fRng1) (gN 2) p1__law_right)
    (sSeq (sP3FOO 7 8 9 (eNew "Script" ["kept"] 1 0 m_Script___init__ (aC (oP (eb (ePk 5) fList)) aN) aN) (eLst aN) (eLst aN))
    (sSeq (sFor (eb (eCall 1 1 0 m__law_ds_openings gL (aC (eVar 0) aN) aN) fSeqI) (gN 3) p0__law_right)
    (sRet (ep (.bl true))))))))
def m__law_right : List D → E0 D := dF 14 s__law_right
theorem me__law_right (a0 : D) (Q : D → Zs → Prop) (X : Er → Zs → Prop) (z : Zs) : m__law_right [a0] Q X z = s__law_right [Sl.fr a0, Sl.no, Sl.no, Sl.no, Sl.no, Sl.no, Sl.no, Sl.no, Sl.no, Sl.no, Sl.no, Sl.no, Sl.no, Sl.no] (outF Q) (fun e _ z => X e z) z := rfl
theorem sc__law_right : FnScope N__law_right P__law_right (defScope (top 52)) := ⟨rfl, rfl, rfl, by decide +kernel, rfl, by decide +kernel, by decide +kernel⟩
theorem ok__law_right (B : Ctx P w K mg base) : ∃ fd, GFn P w K mg base "_law_right" 10 (He.fAd K ("_law_right", none)) fd P__law_right (spF K mg 1 m__law_right) := by
  obtain ⟨fd, F⟩ := B.2.2.1.def_ 51 (d := d52) rfl
  obtain ⟨fd__law_ds_openings, g__law_ds_openings⟩ := ok__law_ds_openings B
  obtain ⟨fd__law_ds_straight, g__law_ds_straight⟩ := ok__law_ds_straight B
  obtain ⟨fd__law_ds_where, g__law_ds_where⟩ := ok__law_ds_where B
  obtain ⟨fd_run, g_run⟩ := ok_run B
  obtain ⟨fd_Script___init__, g_Script___init__, bk_Script___init__⟩ := ok_Script___init__ B
  obtain ⟨fd__law_coin, g__law_coin⟩ := ok__law_coin B
  obtain ⟨fd__law_ds_act, g__law_ds_act⟩ := ok__law_ds_act B
  obtain ⟨fd__law_words, g__law_words⟩ := ok__law_words B
  have mb_len := mbf_len B
  have mb_list := mbf_list B
  have mb_range := mbf_range B
  have mb_repr := mbf_repr B
  refine ⟨fd, ⟨fnF_of (k := 9) F sc__law_right fun cdv A outer s H E pa F0 kx => ?_, mg__law_right B, F.kp, bg_pos (F.bindsN fun _ _ _ _ _ _ us hl => match us, hl with | [_], _ => rfl)⟩⟩
  exact (xss_cons (xs_parFO 4 5 kx rfl rfl (by decide) rfl rfl (XO.fz (xo_call g__law_words.g kx (by omega) g__law_words.bg rfl (xa_cons (xe_var 0 (pv 0)) (xa_cons (xe_op op_add4 (o_add) (XE.p xe_int) (XE.p (xe_call g__law_coin.g kx (by omega) g__law_coin.bg rfl (xa_cons (xe_var 0 (pv 0)) (xa_cons xe_int xa_nil))))) xa_nil)))) (xo_lst xa_nil) rfl) (xss_cons (xs_set 1 (xe_ix rfl (XO.p (xo_lst (xa_cons xe_int (xa_cons xe_int xa_nil)))) (XE.p (xe_call g__law_coin.g kx (by omega) g__law_coin.bg rfl (xa_cons (xe_var 0 (pv 0)) (xa_cons xe_int xa_nil)))) (fun _ _ => rfl)) kx.nd rfl (by first | exact .inl rfl | exact .inr rfl)) (xss_cons (xs_for kx (xi_range1 (xa_cons (xe_call g__law_coin.g kx (by omega) g__law_coin.bg rfl (xa_cons (xe_var 0 (pv 0)) (xa_cons xe_int xa_nil))) xa_nil) rfl mb_range) (xg_name 2 (pg_name kx.nd rfl (by first | exact .inl rfl | exact .inr rfl))) (xss_cons (xs_set 6 (xe_call g__law_ds_act.g kx (by omega) g__law_ds_act.bg rfl (xa_cons (xe_var 0 (pv 0)) (xa_cons (xe_var 4 (pv 4)) (xa_cons (xe_var 1 (pv 1)) xa_nil)))) kx.nd rfl (by first | exact .inl rfl | exact .inr rfl)) (xss_one (xs_app 5 kx (pv 5) (xe_if (xt_cmp (op_eq2 kx.hu) o_eq (XE.p (xe_ix rfl (xp_var 6 (pv 6)) (XE.p xe_int) (fun _ _ => rfl))) (XE.p xe_str) rfl) (xe_tup (xa_cons xe_str xa_nil)) (xe_var 6 (pv 6))))))) (xss_cons (xs_p3FOO 7 8 9 kx rfl rfl rfl (by decide) (by decide) (by decide) rfl rfl rfl (xe_new g_Script___init__.g kx (by omega) g_Script___init__.bg (noat_Script B) rfl (xa_cons (XO.fz (xo_list kx rfl mb_list (xp_var 5 (pv 5)))) xa_nil)) (xo_lst xa_nil) (fun _ kx => (xo_lst xa_nil)) rfl) (xss_cons (xs_for kx (xi_seq rfl (xe_call g__law_ds_openings.g kx (by omega) g__law_ds_openings.bg rfl (xa_cons (xe_var 0 (pv 0)) xa_nil))) (xg_name 3 (pg_name kx.nd rfl (by first | exact .inl rfl | exact .inr rfl))) (xss_cons (xs_asg (xe_call g_run.g kx (by omega) g_run.bg rfl (xa_cons (xe_var 7 (pv 7)) (xa_cons (xe_var 3 (pv 3)) xa_nil))) (xg_tup rfl kx.calm (xgs_cons (xg_name 12 (pg_name kx.nd rfl (by first | exact .inl rfl | exact .inr rfl))) (xgs_cons (xg_name 13 (pg_name kx.nd rfl (by first | exact .inl rfl | exact .inr rfl))) xgs_nil)))) (xss_cons (xs_set 10 (xe_repr kx rfl mb_repr (XE.p (xe_tup (xa_cons (xe_var 12 (pv 12)) (xa_cons (xe_ix rfl (xp_var 13 (pv 13)) (XE.p xe_int) (fun _ _ => rfl)) (xa_cons (xe_call g__law_ds_where.g kx (by omega) g__law_ds_where.bg rfl (xa_cons (xe_var 5 (pv 5)) (xa_cons (xe_var 3 (pv 3)) xa_nil))) (xa_cons (xe_if (xt_cmp (op_eq2 kx.hu) o_eq (XE.p (xe_ix rfl (xp_var 13 (pv 13)) (XE.p xe_int) (fun _ _ => rfl))) (XE.p xe_str) rfl) (xe_ix rfl (xp_var 13 (pv 13)) (XE.p xe_int) (fun _ _ => rfl)) xe_str) xa_nil))))))) kx.nd rfl (by first | exact .inl rfl | exact .inr rfl)) (xss_cons (xs_if (XW.t (xw_or (xt_cmp (op_eq2 kx.hu) o_eq (xp_var 9 (pv 9)) (XO.p (xo_lst xa_nil)) rfl) (xw_or1 (xt_cmp (op_ne2 kx.hu) o_ne (XE.p (xe_ix rfl (xp_var 9 (pv 9)) (XE.p (xe_neg (XE.p xe_int))) (fun _ _ => rfl))) (xp_var 10 (pv 10)) rfl)))) (xss_cons (xs_if (xt_cmp (op_in2 kx.hu) o_in (xp_var 10 (pv 10)) (xp_var 9 (pv 9)) rfl) (xss_one (xs_ret xe_bl)) xss_nil) (xss_cons (xs_app 9 kx (pv 9) (xe_var 10 (pv 10))) (xss_one (xs_app 8 kx (pv 8) (xe_cellL (xo_lst xa_nil)))))) xss_nil) (xss_cons (xs_set 11 (xe_ix rfl (xp_var 8 (pv 8)) (XE.p (xe_neg (XE.p xe_int))) (fun _ _ => rfl)) kx.nd rfl (by first | exact .inl rfl | exact .inr rfl)) (xss_cons (xs_appC kx (xe_var 11 (pv 11)) (xe_tup (xa_cons (xe_var 3 (pv 3)) (xa_cons (xe_var 13 (pv 13)) xa_nil)))) (xss_one (xs_if (XW.t (xw_and (xt_cmp op_gt o_gt (XE.p (xe_lenZ rfl rfl mb_len (xp_var 11 (pv 11)))) (XE.p xe_int) rfl) (xw_and1 (xt_not (xt_tru rfl (XE.p (xe_call g__law_ds_straight.g kx (by omega) g__law_ds_straight.bg rfl (xa_cons (XO.fz (xo_lst (xa_cons (xe_ixZ rfl (xp_var 11 (pv 11)) (XE.p xe_int) (fun _ _ => rfl)) (xa_cons (xe_ixZ rfl (xp_var 11 (pv 11)) (XE.p (xe_op op_divG (o_div) (XE.p (xe_lenZ rfl rfl mb_len (xp_var 11 (pv 11)))) (XE.p xe_int))) (fun _ _ => rfl)) (xa_cons (xe_ixZ rfl (xp_var 11 (pv 11)) (XE.p (xe_neg (XE.p xe_int))) (fun _ _ => rfl)) xa_nil))))) xa_nil)))))))) (xss_one (xs_ret xe_bl)) xss_nil)))))))) (xss_one (xs_ret xe_bl)))))))

/-! ### law -/
abbrev N_law : List Str := ["_law_script", "_law_spot"]
abbrev P_law : List Str := ["_law_script"]
def p0_law (ρ : Rho) (Q : Fl → Rho → Zs → Prop) (X : Er → Rho → Zs → Prop) (z : Zs) : Prop := (sIf (tN (tV (eb (eCall 2 2 0 m__law_purse gL (aC (eVar 0) (aC (eVar 1) aN)) aN) (fRight m__law_right))))
    (sRet (ep (.bl false)))
    (ep .nx)) ρ Q X z
def s_law : E Fl := (sSeq (sFor (eb (aC (bO dMax (ep (.int 1)) (bO dMin (ep (.int 6)) (uO dLen (ePk 0)))) aN) fRng1) (gN 1) p0_law)
    (sRet (ep (.bl true))))
def m_law : List D → E0 D := dF 2 s_law
theorem me_law (a0 : D) (Q : D → Zs → Prop) (X : Er → Zs → Prop) (z : Zs) : m_law [a0] Q X z = s_law [Sl.fr a0, Sl.no] (outF Q) (fun e _ z => X e z) z := rfl
theorem sc_law : FnScope N_law P_law (defScope (top 53)) := ⟨rfl, rfl, rfl, by decide +kernel, rfl, by decide +kernel, by decide +kernel⟩
theorem ok_law (B : Ctx P w K mg base) {fd : FuncData} (F : FunD K "law" "law" (defArgs (top 53)) (defBody (top 53)) (defScope (top 53)) [] [] (He.fAd K ("law", none)) fd) : FnG P w K mg base 11 (He.fAd K ("law", none)) fd P_law (spL K mg 1 m_law) := by
  obtain ⟨fd__law_right, g__law_right⟩ := ok__law_right B
  obtain ⟨fd__law_purse, g__law_purse⟩ := ok__law_purse B
  have mb_len := mbf_len B
  have mb_max := mbf_max B
  have mb_min := mbf_min B
  have mb_range := mbf_range B
  refine fnL_of (k := 10) F sc_law fun cdv A outer s H E F0 kx => ?_
  exact (xss_cons (xs_for kx (xi_range1 (xa_cons (xe_max2 kx rfl mb_max (XE.p xe_int) (XE.p (xe_min2 kx rfl mb_min (XE.p xe_int) (XE.p (xe_len rfl rfl mb_len (xp_var 0 (pv 0))))))) xa_nil) rfl mb_range) (xg_name 1 (pg_name kx.nd rfl (by first | exact .inl rfl | exact .inr rfl))) (xss_one (xs_if (xt_not (xt_tru rfl (XE.p (xe_right rfl g__law_right.g kx (by omega) g__law_right.bg rfl (xo_call g__law_purse.g kx (by omega) g__law_purse.bg rfl (xa_cons (xe_var 0 (pv 0)) (xa_cons (xe_var 1 (pv 1)) xa_nil))))))) (xss_one (xs_ret xe_bl)) xss_nil))) (xss_one (xs_ret xe_bl)))
end
end LW

namespace LW
open PySem PySem.Spec PyProof.Rows L2 DL
theorem le_mul {a y : Int} (ha : 0 ≤ a) (hy : 1 ≤ y) : a ≤ a * y := by
  have := Int.mul_le_mul_of_nonneg_left hy ha
  omega
theorem lt_of_mul {x y b : Int} (hb : 0 < b) (h : x * b < y * b) : x < y := Int.lt_of_mul_lt_mul_right h (by omega)
/-! the common divisor -/
theorem wh_gcd (n : Nat) : ∀ (a b : Int) (Q : Fl → Rho → Zs → Prop) (X : Er → Rho → Zs → Prop) (z : Zs), 0 ≤ a → 0 ≤ b → b < n → (Q .nx [Sl.fr (.int (Int.gcd a b)), Sl.fr (.int 0)] z) →
    whL p0_common_divisor p1_common_divisor n [Sl.fr (.int a), Sl.fr (.int b)] Q X z := by
  induction n with
  | zero => intro a b Q X z h1 h2 h3; omega
  | succ n ih =>
    intro a b Q X z h1 h2 h3 hQ
    rw [whL_succ]
    by_cases hb : b = 0
    · subst hb
      simp [p0_common_divisor]
      rw [Int.gcd_zero_right] at hQ
      rwa [Int.natAbs_of_nonneg h1] at hQ
    · have := fmod_b a (b := b) (by omega)
      simp [p0_common_divisor, p1_common_divisor, hb]
      refine ih b (a.fmod b) Q X z h2 this.1 (by omega) ?_
      rw [gcd_step a b h1 (by omega)]
      exact hQ
theorem w_common_divisor (a b : Int) (Q : D → Zs → Prop) (X : Er → Zs → Prop) (z : Zs) (h : ∀ g : Int, g = Int.gcd a b → Q (.int g) z) : m_common_divisor [.int a, .int b] Q X z := by
  rw [me_common_divisor]
  simp [s_common_divisor]
  rw [sWhile_a]
  refine ⟨(if b < 0 then -b else b).toNat + 1, wh_gcd _ _ _ _ _ _ (by split <;> omega) (by split <;> omega) (by split <;> omega) ?_⟩
  rw [gcd_abs]
  simpa using h _ rfl
/-- the divisor with its sign -/
def shr (a b : Int) : Int := if b < 0 then -(Int.gcd a b : Int) else Int.gcd a b
theorem shr_ok {a b : Int} (h : b ≠ 0) (hb : b.natAbs < 2 ^ 1000) : shr a b ≠ 0 ∧ (shr a b).natAbs.log2 < 9000 := by
  have h1 : 0 < Int.gcd a b := Int.gcd_pos_iff.mpr (.inr h)
  have h2 : Int.gcd a b ≤ b.natAbs := Nat.le_of_dvd (by omega) (Int.gcd_dvd_natAbs_right a b)
  have h3 : (shr a b).natAbs = Int.gcd a b := by unfold shr; split <;> omega
  refine ⟨fun e => by rw [e] at h3; omega, log_lt2 (by omega)⟩
def rat (a b : Int) : D := .tup [.int (a.fdiv (shr a b)), .int (b.fdiv (shr a b))]
theorem w_fraction (a b : Int) (Q : D → Zs → Prop) (X : Er → Zs → Prop) (z : Zs) (hb : b.natAbs < 2 ^ 1000) (h0 : b = 0 → X ("InvalidFraction", .tup [.int a, .int b]) z)
    (h : b ≠ 0 → Q (rat a b) z) : m_fraction [.int a, .int b] Q X z := by
  rw [me_fraction]
  simp [s_fraction]
  refine ⟨h0, fun hb0 => w_common_divisor a b _ _ z fun g hg => ?_⟩
  have hs := shr_ok (a := a) hb0 hb
  have hr := h hb0
  unfold rat at hr
  unfold shr at hs hr
  rw [← hg] at hs hr
  by_cases hn : b < 0
  · rw [if_pos hn] at hs hr
    have h1 : ¬ g = 0 := by omega
    have h2 : g.natAbs.log2 < 9000 := by simpa using hs.2
    simp [hn, h1, h2, hr, show ¬ 0 ≤ b by omega]
  · rw [if_neg hn] at hs hr
    have h1 : ¬ g = 0 := by omega
    simp [hn, h1, hs.2, hr]
def prD (p : Int × Int) : D := .tup [.int p.1, .int p.2]
def bad (p : Int × Int) : Prop := p.2 < 1 ∨ Int.gcd p.1 p.2 ≠ 1
instance (p : Int × Int) : Decidable (bad p) := inferInstanceAs (Decidable (_ ∨ _))
theorem w_is_fraction (a b : Int) (Q : D → Zs → Prop) (X : Er → Zs → Prop) (z : Zs) (h0 : bad (a, b) → Q (.bl false) z) (h1 : ¬ bad (a, b) → Q (.bl true) z) : m_is_fraction [.tup [.int a, .int b]] Q X z := by
  rw [me_is_fraction]
  simp [s_is_fraction]
  unfold bad at h0 h1
  simp only at h0 h1
  refine ⟨fun hb => w_common_divisor a b _ _ z fun g hg => ?_, fun hb => h0 (.inl hb)⟩
  simp
  by_cases q : g = 1
  · have : Int.gcd a b = 1 := by omega
    simp [q]
    exact h1 (by omega)
  · have : ¬ Int.gcd a b = 1 := by omega
    simp [q]
    exact h0 (.inr this)
theorem shr_pos {a b : Int} (h : 1 ≤ b) : shr a b = Int.gcd a b := by
  unfold shr
  rw [if_neg (by omega)]
theorem rat_eq {a b : Int} (h : 1 ≤ b) : (a.fdiv (shr a b) = a ∧ b.fdiv (shr a b) = b) ↔ Int.gcd a b = 1 := by
  rw [shr_pos h]
  have g0 : 0 < Int.gcd a b := Int.gcd_pos_iff.mpr (.inr (by omega))
  constructor
  · intro ⟨_, e⟩
    have d := Int.gcd_dvd_right (a := a) (b := b)
    obtain ⟨k, hk⟩ := d
    generalize hg : (Int.gcd a b : Int) = g at *
    have gp : 0 < g := by omega
    have ek : b.fdiv g = k := by rw [hk, Int.mul_comm]; exact Int.mul_fdiv_cancel k (by omega)
    rw [ek] at e
    subst e
    have : k * 1 = k * g := by rw [Int.mul_one, Int.mul_comm]; exact hk
    have := Int.eq_of_mul_eq_mul_left (by omega : k ≠ 0) this
    omega
  · intro e
    rw [e]
    simp
/-- the lowest terms -/
def rr (u v : Int) : Int × Int := (u.fdiv (shr u v), v.fdiv (shr u v))
theorem rat_rr (u v : Int) : rat u v = prD (rr u v) := rfl
/-- a fraction in lowest terms, not below 0 -/
structure Fr (p : Int × Int) (m : Int) : Prop where
  n0 : 0 ≤ p.1
  d1 : 1 ≤ p.2
  n9 : p.1 ≤ m
  d9 : p.2 ≤ m
  g : Int.gcd p.1 p.2 = 1
theorem Fr.bad {p : Int × Int} {m : Int} (h : Fr p m) : ¬ bad p := by
  have := h.d1
  have := h.g
  unfold LW.bad
  omega
theorem rr_eqs {u v : Int} (h1 : 1 ≤ v) : ∃ g : Int, 1 ≤ g ∧ u = (rr u v).1 * g ∧ v = (rr u v).2 * g ∧ Int.gcd (rr u v).1 (rr u v).2 = 1 := by
  have g0 : 0 < Int.gcd u v := Int.gcd_pos_iff.mpr (.inr (by omega))
  obtain ⟨k1, e1⟩ := Int.gcd_dvd_left (a := u) (b := v)
  obtain ⟨k2, e2⟩ := Int.gcd_dvd_right (a := u) (b := v)
  unfold rr
  rw [shr_pos h1]
  generalize hgg : Int.gcd u v = g at e1 e2 g0 ⊢
  have f1 : u.fdiv g = k1 := by rw [e1, Int.mul_comm]; exact Int.mul_fdiv_cancel k1 (by omega)
  have f2 : v.fdiv g = k2 := by rw [e2, Int.mul_comm]; exact Int.mul_fdiv_cancel k2 (by omega)
  refine ⟨g, by omega, by simp only [f1]; rw [Int.mul_comm]; exact e1, by simp only [f2]; rw [Int.mul_comm]; exact e2, ?_⟩
  simp only [f1, f2]
  have h : Int.gcd ((g : Int) * k1) ((g : Int) * k2) = g := by rw [← e1, ← e2]; exact hgg
  rw [Int.gcd_mul_left, Int.natAbs_natCast] at h
  exact Nat.eq_of_mul_eq_mul_left g0 (by rw [h, Nat.mul_one])
theorem rr_fr {u v m : Int} (h0 : 0 ≤ u) (h1 : 1 ≤ v) (hu : u ≤ m) (hv : v ≤ m) : Fr (rr u v) m := by
  obtain ⟨g, g1, e1, e2, eg⟩ := rr_eqs (u := u) h1
  generalize rr u v = p at *
  have n0 : 0 ≤ p.1 := Int.le_of_mul_le_mul_right (a := g) (by omega) (by omega)
  have d1 : 0 < p.2 := lt_of_mul (b := g) (by omega) (by omega)
  have k1 := le_mul n0 g1
  have k2 := le_mul (a := p.2) (by omega) g1
  exact ⟨n0, by omega, by omega, by omega, eg⟩
theorem rr_pos {u v : Int} (h0 : 0 < u) (h1 : 1 ≤ v) : 0 < (rr u v).1 := by
  obtain ⟨g, g1, e1, e2, eg⟩ := rr_eqs (u := u) h1
  exact lt_of_mul (b := g) (by omega) (by omega)
theorem dvd_cop {a b d : Int} (h : b ∣ a * d) (g : Int.gcd a b = 1) : b ∣ d := by
  have h1 := Int.natAbs_dvd_natAbs.mpr h
  rw [Int.natAbs_mul] at h1
  exact Int.natAbs_dvd_natAbs.mp (Nat.Coprime.dvd_of_dvd_mul_left (m := a.natAbs) (by unfold Nat.Coprime; rw [Nat.gcd_comm]; exact g) h1)
theorem Fr.eq {p q : Int × Int} {m : Int} (hp : Fr p m) (hq : Fr q m) (e : p.1 * q.2 = q.1 * p.2) : p = q := by
  obtain ⟨a, b⟩ := p
  obtain ⟨c, d⟩ := q
  have b1 := hp.d1
  have d1 := hq.d1
  have g1 := hp.g
  have g2 := hq.g
  simp only at e b1 d1 g1 g2
  have u1 : b ∣ a * d := ⟨c, by rw [e, Int.mul_comm]⟩
  have u2 : d ∣ c * b := ⟨a, by rw [← e, Int.mul_comm]⟩
  have v1 := Int.le_of_dvd (by omega) (dvd_cop u1 g1)
  have v2 := Int.le_of_dvd (by omega) (dvd_cop u2 g2)
  have : b = d := by omega
  subst this
  rw [Int.eq_of_mul_eq_mul_right (by omega : b ≠ 0) e]
@[simp] theorem eq_pair (a b c d : Int) (Q : Bool → Prop) : dEqG (.tup [.int a, .int b]) (.tup [.int c, .int d]) Q = Q (decide (a = c ∧ b = d)) := by
  have : PyData.eqv (D.py (.tup [.int a, .int b])) (D.py (.tup [.int c, .int d])) = decide (a = c ∧ b = d) := by
    have f : ∀ x y : Int, (x == y) = decide (x = y) := fun x y => by rw [Bool.eq_iff_iff]; simp
    simp [D.py, pyL, PyData.eqv, PyData.eqvAll, f]
  unfold dEqG
  rw [this]
  simp [D.isPy, isPyL, D.py, pyL, SeqAt.shaped, PyData.canLay0, PyData.canLayAll0, PyData.depth, PyData.depthAll]
end LW

namespace LW
open PySem PySem.Spec PyProof.Rows L2 DL
/-! the draws -/
theorem w__law_coin (n : Int) (Q : D → Zs → Prop) (X : Er → Zs → Prop) (z : Zs) (hn : 0 < n) (hn2 : n < 10 ^ 18) (hz : z.n < 10 ^ 18) (h : ∀ (c m : Int), 0 ≤ c → c < n → m ≤ z.n + 1 → Q (.int c) { z with n := m }) : m__law_coin [.cel, .int n] Q X z := by
  rw [me__law_coin]
  have e1 : (10 : Int) ^ 18 = 1000000000000000000 := by decide
  have n0 : ¬ n = 0 := by omega
  simp [s__law_coin, n0]
  intro x hx
  refine ⟨fun h1 x2 hx2 x3 hx3 => ?_, fun h1 h0 => ⟨by omega, fun y hy hy2 _ => ?_⟩⟩
  · have := fmod_b x2 hn
    exact ⟨log_lt (by omega), Int.fdiv_nonneg hx3 (by omega), h _ _ this.1 this.2 (by omega)⟩
  · refine ⟨mulC_l (by omega), bits_3 (by omega), fun _ => ⟨mulC_l (by omega), bits_2 ?_, log1024, ?_⟩⟩
    · have := fmod_b ((y + 2038074743 * (z.n + 1)) ^ 3) (b := 10000000000000000000000013) (by omega)
      omega
    · have := fmod_b ((((((y + 2038074743 * (z.n + 1)) ^ 3).fmod 10000000000000000000000013 + 982451653 * (z.n + 1)) ^ 2).fmod 1000000000000000000000007).fdiv 1024) hn
      exact h _ _ this.1 this.2 (by omega)
theorem w__law_purse (ns : List Int) (i : Nat) (Q : List D → Zs → Prop) (X : Er → Zs → Prop) (z : Zs) (hi : i < 1000) (h : ∀ x y : Int, 0 ≤ x → 0 ≤ y → y < 10 ^ 24 + 7 → Q [.int x, .int y, .int 0] z) : m__law_purse [.scr ns, .int i] Q X z := by
  rw [me__law_purse]
  simp [s__law_purse]
  refine ⟨fun hl => ⟨ns[i], atI_nat ns i hl, mulC_r (by omega), mulC_r (by omega), ?_⟩, fun hl => ⟨mulC_r (by omega), mulC_r (by omega), ?_⟩⟩
  · have := fmod_b (ns[i] * 30011 + ↑i * 7368787 + 104729) (b := 1000000000000000000000007) (by omega)
    refine h _ _ ?_ this.1 (by omega)
    split <;> omega
  · have := fmod_b (↑i * 7368787 + 104729) (b := 1000000000000000000000007) (by omega)
    exact h _ _ (by omega) this.1 (by omega)
end LW

namespace LW
open PySem PySem.Spec PyProof.Rows L2 DL
theorem rr_cross {u v x y : Int} (h0 : 0 ≤ u) (h1 : 1 ≤ v) (h2 : 0 ≤ x) (h3 : 1 ≤ y) (e : x * v = u * y) : rr x y = rr u v := by
  obtain ⟨g, g1, e1, e2, eg⟩ := rr_eqs (u := x) h3
  obtain ⟨h, k1, f1, f2, fg⟩ := rr_eqs (u := u) h1
  have A := rr_fr (m := max x y) h2 h3 (by omega) (by omega)
  have B := rr_fr (m := max u v) h0 h1 (by omega) (by omega)
  generalize rr x y = p at *
  generalize rr u v = q at *
  refine Fr.eq (m := max (max x y) (max u v)) ⟨A.n0, A.d1, by have := A.n9; omega, by have := A.d9; omega, A.g⟩ ⟨B.n0, B.d1, by have := B.n9; omega, by have := B.d9; omega, B.g⟩ ?_
  have k : (p.1 * q.2) * (g * h) = (q.1 * p.2) * (g * h) := by
    have e3 : (p.1 * g) * (q.2 * h) = (q.1 * h) * (p.2 * g) := by rw [← e1, ← e2, ← f1, ← f2]; exact e
    grind
  have : 0 < g * h := Int.mul_pos (by omega) (by omega)
  exact Int.eq_of_mul_eq_mul_right (by omega) k
/-- the parts of a place -/
structure Pl (u v : Int) (p : Int × Int) (g : Int) : Prop where
  g1 : 1 ≤ g
  e1 : u = p.1 * g
  e2 : v = p.2 * g
  n0 : 0 ≤ p.1
  d1 : 1 ≤ p.2
  n9 : p.1 ≤ u
  d9 : p.2 ≤ v
  g9 : g ≤ v
theorem rr_pl {u v : Int} (h0 : 0 ≤ u) (h1 : 1 ≤ v) : ∃ g, Pl u v (rr u v) g := by
  obtain ⟨g, g1, e1, e2, eg⟩ := rr_eqs (u := u) h1
  have A := rr_fr (m := max u v) h0 h1 (by omega) (by omega)
  generalize rr u v = p at *
  have k1 := le_mul A.n0 g1
  have k2 := le_mul (a := p.2) (by have := A.d1; omega) g1
  have k3 := le_mul (a := g) (y := p.2) (by omega) A.d1
  have k4 : g * p.2 = p.2 * g := Int.mul_comm _ _
  exact ⟨g, g1, e1, e2, A.n0, A.d1, by omega, by omega, by omega⟩
theorem Pl.fr {u v g : Int} {p : Int × Int} (h : Pl u v p g) : 0 ≤ u ∧ 1 ≤ v := by
  have k1 := le_mul h.n0 h.g1
  have k2 := le_mul (a := p.2) (by have := h.d1; omega) h.g1
  have := h.e1
  have := h.e2
  have := h.n0
  have := h.d1
  omega
theorem rr_gap {p b : Int} (h0 : 0 ≤ p) (hb : 1 ≤ b) (hp : p ≤ b) : ((rr p b).2 - (rr p b).1, (rr p b).2) = rr (b - p) b := by
  obtain ⟨g, g1, e1, e2, eg⟩ := rr_eqs (u := p) hb
  have A := rr_fr (m := b) h0 hb hp (Int.le_refl _)
  have B := rr_fr (m := b) (u := b - p) (v := b) (by omega) hb (by omega) (Int.le_refl _)
  obtain ⟨h, k1, f1, f2, fg⟩ := rr_eqs (u := b - p) hb
  generalize rr p b = x at *
  generalize rr (b - p) b = y at *
  have xx : 0 ≤ x.2 - x.1 := by
    have : x.1 * g ≤ x.2 * g := by omega
    have := Int.le_of_mul_le_mul_right this (by omega)
    omega
  have d9 := A.d9
  have n0 := A.n0
  refine Fr.eq (m := b) ⟨xx, A.d1, by show x.2 - x.1 ≤ b; omega, A.d9, ?_⟩ B ?_
  · show Int.gcd (x.2 - x.1) x.2 = 1
    have e : Int.gcd (x.2 - x.1) x.2 = Int.gcd x.1 x.2 := by
      have k1 : Int.gcd (x.2 - x.1) x.2 = Int.gcd (x.1 - x.2) x.2 := by rw [← Int.neg_gcd]; congr 1; omega
      rw [k1]
      simp
    rw [e]
    exact eg
  · show (x.2 - x.1) * y.2 = y.1 * x.2
    have e4 : (x.2 - x.1) * g = y.1 * h := by rw [Int.sub_mul]; omega
    have e5 : x.2 * g = y.2 * h := by omega
    have k : ((x.2 - x.1) * y.2) * (g * h) = (y.1 * x.2) * (g * h) := by grind
    have : 0 < g * h := Int.mul_pos (by omega) (by omega)
    exact Int.eq_of_mul_eq_mul_right (by omega) k
theorem fdiv_of {x y q : Int} (hy : 0 < y) (h1 : q * y ≤ x) (h2 : x < (q + 1) * y) : x.fdiv y = q := by
  rw [Int.fdiv_eq_ediv_of_nonneg x (by omega)]
  have a := Int.le_ediv_of_mul_le hy h1
  have b := Int.ediv_lt_of_lt_mul hy h2
  omega
theorem ediv_of {x y : Int} (hy : 0 < y) : (x / y) * y ≤ x ∧ x < (x / y + 1) * y := by
  have h1 := Int.emod_nonneg x (show y ≠ 0 by omega)
  have h2 := Int.emod_lt_of_pos x hy
  have h3 := Int.mul_ediv_add_emod x y
  have h4 : (x / y + 1) * y = y * (x / y) + y := by grind
  have h5 : (x / y) * y = y * (x / y) := Int.mul_comm _ _
  omega
theorem rr_fits {m o b : Int} (h0 : 0 ≤ m) (hb : 1 ≤ b) (ho : 1 ≤ o) : ((rr m b).1 * (rr o b).2).fdiv ((rr m b).2 * (rr o b).1) = m / o := by
  obtain ⟨g, A⟩ := rr_pl h0 hb
  obtain ⟨h, B⟩ := rr_pl (u := o) (v := b) (by omega) hb
  generalize rr m b = x at *
  generalize rr o b = y at *
  obtain ⟨q1, q2⟩ := ediv_of (x := m) (y := o) (by omega)
  have gh : 0 < g * h := Int.mul_pos (by have := A.g1; omega) (by have := B.g1; omega)
  have o1 : 1 ≤ y.1 := by
    have : 0 < y.1 := lt_of_mul (b := h) (by have := B.g1; omega) (by have := B.e1; omega)
    omega
  have e1 : (x.1 * y.2) * (g * h) = m * b := by have := A.e1; have := B.e2; grind
  have e2 : (x.2 * y.1) * (g * h) = o * b := by have := A.e2; have := B.e1; grind
  have pos : 0 < x.2 * y.1 := Int.mul_pos (by have := A.d1; omega) (by omega)
  generalize m / o = q at *
  refine fdiv_of pos ?_ ?_
  · refine Int.le_of_mul_le_mul_right (a := g * h) ?_ gh
    rw [e1, Int.mul_assoc, e2]
    have : q * o * b ≤ m * b := Int.mul_le_mul_of_nonneg_right q1 (by omega)
    have e : q * (o * b) = q * o * b := by grind
    omega
  · refine lt_of_mul (b := g * h) gh ?_
    rw [e1, Int.mul_assoc, e2]
    have : m * b < (q + 1) * o * b := Int.mul_lt_mul_of_pos_right q2 (by omega)
    have e : (q + 1) * (o * b) = (q + 1) * o * b := by grind
    omega
theorem rr_moved {p o b w : Int} (h0 : 0 ≤ p) (hb : 1 ≤ b) (ho : 0 ≤ o) (hw : 0 ≤ p + w * o) :
    rr ((rr p b).1 * (rr o b).2 + w * (rr o b).1 * (rr p b).2) ((rr p b).2 * (rr o b).2) = rr (p + w * o) b := by
  obtain ⟨g, A⟩ := rr_pl h0 hb
  obtain ⟨h, B⟩ := rr_pl (u := o) (v := b) ho hb
  generalize rr p b = x at *
  generalize rr o b = y at *
  have gh : 0 < g * h := Int.mul_pos (by have := A.g1; omega) (by have := B.g1; omega)
  have e1 : (x.1 * y.2 + w * y.1 * x.2) * (g * h) = (p + w * o) * b := by
    have := A.e1; have := A.e2; have := B.e1; have := B.e2
    grind
  have e2 : (x.2 * y.2) * (g * h) = b * b := by have := A.e2; have := B.e2; grind
  refine rr_cross hw hb ?_ ?_ ?_
  · have : 0 ≤ (p + w * o) * b := Int.mul_nonneg hw (by omega)
    rcases Int.lt_or_le (x.1 * y.2 + w * y.1 * x.2) 0 with k | k
    · have : (x.1 * y.2 + w * y.1 * x.2) * (g * h) < 0 := Int.mul_neg_of_neg_of_pos k gh
      omega
    · exact k
  · have := Int.mul_pos (a := x.2) (b := y.2) (by have := A.d1; omega) (by have := B.d1; omega)
    omega
  · have k : ((x.1 * y.2 + w * y.1 * x.2) * b) * (g * h) = ((p + w * o) * (x.2 * y.2)) * (g * h) := by grind
    exact Int.eq_of_mul_eq_mul_right (by omega) k
theorem rr_dist {m n b : Int} (h0 : 0 ≤ m) (h1 : 0 ≤ n) (hb : 1 ≤ b) :
    rr (if (rr m b).1 * (rr n b).2 - (rr n b).1 * (rr m b).2 < 0 then -((rr m b).1 * (rr n b).2 - (rr n b).1 * (rr m b).2) else (rr m b).1 * (rr n b).2 - (rr n b).1 * (rr m b).2) ((rr m b).2 * (rr n b).2) = rr (if m - n < 0 then -(m - n) else m - n) b := by
  obtain ⟨g, A⟩ := rr_pl h0 hb
  obtain ⟨h, B⟩ := rr_pl h1 hb
  generalize rr m b = x at *
  generalize rr n b = y at *
  have gh : 0 < g * h := Int.mul_pos (by have := A.g1; omega) (by have := B.g1; omega)
  have e1 : (x.1 * y.2 - y.1 * x.2) * (g * h) = (m - n) * b := by
    have := A.e1; have := A.e2; have := B.e1; have := B.e2
    grind
  have e2 : (x.2 * y.2) * (g * h) = b * b := by have := A.e2; have := B.e2; grind
  have d1 : 1 ≤ x.2 * y.2 := by
    have := Int.mul_pos (a := x.2) (b := y.2) (by have := A.d1; omega) (by have := B.d1; omega)
    omega
  generalize x.1 * y.2 - y.1 * x.2 = u at *
  generalize x.2 * y.2 = v at *
  have s1 : u < 0 ↔ m - n < 0 := by
    constructor
    · intro k
      have : u * (g * h) < 0 := Int.mul_neg_of_neg_of_pos k gh
      rcases Int.lt_or_le (m - n) 0 with q | q
      · exact q
      · have : 0 ≤ (m - n) * b := Int.mul_nonneg q (by omega)
        omega
    · intro k
      have : (m - n) * b < 0 := Int.mul_neg_of_neg_of_pos k (by omega)
      rcases Int.lt_or_le u 0 with q | q
      · exact q
      · have : 0 ≤ u * (g * h) := Int.mul_nonneg q (by omega)
        omega
  by_cases k : u < 0
  · rw [if_pos k, if_pos (s1.mp k)]
    refine rr_cross (by have := s1.mp k; omega) hb (by omega) d1 ?_
    have k : (-u * b) * (g * h) = (-(m - n) * v) * (g * h) := by grind
    exact Int.eq_of_mul_eq_mul_right (by omega) k
  · rw [if_neg k, if_neg (fun q => k (s1.mpr q))]
    refine rr_cross (by have := fun q => k (s1.mpr q); omega) hb (by omega) d1 ?_
    have k : (u * b) * (g * h) = ((m - n) * v) * (g * h) := by grind
    exact Int.eq_of_mul_eq_mul_right (by omega) k
theorem rr_zero {b : Int} (hb : 1 ≤ b) : rr 0 b = (0, 1) := by
  have : rr 0 b = rr 0 1 := rr_cross (by omega) (by omega) (by omega) hb (by omega)
  rw [this]; decide
theorem rr_one {b : Int} (hb : 1 ≤ b) : rr b b = (1, 1) := by
  have : rr b b = rr 1 1 := rr_cross (by omega) (by omega) (by omega) hb (by omega)
  rw [this]; decide
theorem rr_eq0 {p b : Int} (h0 : 0 ≤ p) (hb : 1 ≤ b) : (rr p b).1 = 0 ↔ p = 0 := by
  obtain ⟨g, A⟩ := rr_pl h0 hb
  generalize rr p b = x at *
  have a1 := A.e1
  have a2 := A.n9
  have a3 := A.n0
  constructor
  · intro k; rw [k] at a1; omega
  · intro k; omega
theorem rr_self {p b : Int} (hb : 1 ≤ b) (g : Int.gcd p b = 1) : rr p b = (p, b) := by
  unfold rr
  obtain ⟨h1, h2⟩ := (rat_eq (a := p) hb).mpr g
  rw [h1, h2]
end LW

namespace LW
open PySem PySem.Spec PyProof.Rows L2 DL
/-! the words differ -/
@[simp] theorem ne_left_right : (("left" : Str) = ("right" : Str)) = False := by decide +kernel
@[simp] theorem ne_left_turn : (("left" : Str) = ("turn" : Str)) = False := by decide +kernel
@[simp] theorem ne_left_gap : (("left" : Str) = ("gap" : Str)) = False := by decide +kernel
@[simp] theorem ne_left_rest : (("left" : Str) = ("rest" : Str)) = False := by decide +kernel
@[simp] theorem ne_left_steps : (("left" : Str) = ("steps" : Str)) = False := by decide +kernel
@[simp] theorem ne_left_fill : (("left" : Str) = ("fill" : Str)) = False := by decide +kernel
@[simp] theorem ne_left_mark : (("left" : Str) = ("mark" : Str)) = False := by decide +kernel
@[simp] theorem ne_left_go : (("left" : Str) = ("go" : Str)) = False := by decide +kernel
@[simp] theorem ne_left_span : (("left" : Str) = ("span" : Str)) = False := by decide +kernel
@[simp] theorem ne_right_left : (("right" : Str) = ("left" : Str)) = False := by decide +kernel
@[simp] theorem ne_right_turn : (("right" : Str) = ("turn" : Str)) = False := by decide +kernel
@[simp] theorem ne_right_gap : (("right" : Str) = ("gap" : Str)) = False := by decide +kernel
@[simp] theorem ne_right_rest : (("right" : Str) = ("rest" : Str)) = False := by decide +kernel
@[simp] theorem ne_right_steps : (("right" : Str) = ("steps" : Str)) = False := by decide +kernel
@[simp] theorem ne_right_fill : (("right" : Str) = ("fill" : Str)) = False := by decide +kernel
@[simp] theorem ne_right_mark : (("right" : Str) = ("mark" : Str)) = False := by decide +kernel
@[simp] theorem ne_right_go : (("right" : Str) = ("go" : Str)) = False := by decide +kernel
@[simp] theorem ne_right_span : (("right" : Str) = ("span" : Str)) = False := by decide +kernel
@[simp] theorem ne_turn_left : (("turn" : Str) = ("left" : Str)) = False := by decide +kernel
@[simp] theorem ne_turn_right : (("turn" : Str) = ("right" : Str)) = False := by decide +kernel
@[simp] theorem ne_turn_gap : (("turn" : Str) = ("gap" : Str)) = False := by decide +kernel
@[simp] theorem ne_turn_rest : (("turn" : Str) = ("rest" : Str)) = False := by decide +kernel
@[simp] theorem ne_turn_steps : (("turn" : Str) = ("steps" : Str)) = False := by decide +kernel
@[simp] theorem ne_turn_fill : (("turn" : Str) = ("fill" : Str)) = False := by decide +kernel
@[simp] theorem ne_turn_mark : (("turn" : Str) = ("mark" : Str)) = False := by decide +kernel
@[simp] theorem ne_turn_go : (("turn" : Str) = ("go" : Str)) = False := by decide +kernel
@[simp] theorem ne_turn_span : (("turn" : Str) = ("span" : Str)) = False := by decide +kernel
@[simp] theorem ne_gap_left : (("gap" : Str) = ("left" : Str)) = False := by decide +kernel
@[simp] theorem ne_gap_right : (("gap" : Str) = ("right" : Str)) = False := by decide +kernel
@[simp] theorem ne_gap_turn : (("gap" : Str) = ("turn" : Str)) = False := by decide +kernel
@[simp] theorem ne_gap_rest : (("gap" : Str) = ("rest" : Str)) = False := by decide +kernel
@[simp] theorem ne_gap_steps : (("gap" : Str) = ("steps" : Str)) = False := by decide +kernel
@[simp] theorem ne_gap_fill : (("gap" : Str) = ("fill" : Str)) = False := by decide +kernel
@[simp] theorem ne_gap_mark : (("gap" : Str) = ("mark" : Str)) = False := by decide +kernel
@[simp] theorem ne_gap_go : (("gap" : Str) = ("go" : Str)) = False := by decide +kernel
@[simp] theorem ne_gap_span : (("gap" : Str) = ("span" : Str)) = False := by decide +kernel
@[simp] theorem ne_rest_left : (("rest" : Str) = ("left" : Str)) = False := by decide +kernel
@[simp] theorem ne_rest_right : (("rest" : Str) = ("right" : Str)) = False := by decide +kernel
@[simp] theorem ne_rest_turn : (("rest" : Str) = ("turn" : Str)) = False := by decide +kernel
@[simp] theorem ne_rest_gap : (("rest" : Str) = ("gap" : Str)) = False := by decide +kernel
@[simp] theorem ne_rest_steps : (("rest" : Str) = ("steps" : Str)) = False := by decide +kernel
@[simp] theorem ne_rest_fill : (("rest" : Str) = ("fill" : Str)) = False := by decide +kernel
@[simp] theorem ne_rest_mark : (("rest" : Str) = ("mark" : Str)) = False := by decide +kernel
@[simp] theorem ne_rest_go : (("rest" : Str) = ("go" : Str)) = False := by decide +kernel
@[simp] theorem ne_rest_span : (("rest" : Str) = ("span" : Str)) = False := by decide +kernel
@[simp] theorem ne_steps_left : (("steps" : Str) = ("left" : Str)) = False := by decide +kernel
@[simp] theorem ne_steps_right : (("steps" : Str) = ("right" : Str)) = False := by decide +kernel
@[simp] theorem ne_steps_turn : (("steps" : Str) = ("turn" : Str)) = False := by decide +kernel
@[simp] theorem ne_steps_gap : (("steps" : Str) = ("gap" : Str)) = False := by decide +kernel
@[simp] theorem ne_steps_rest : (("steps" : Str) = ("rest" : Str)) = False := by decide +kernel
@[simp] theorem ne_steps_fill : (("steps" : Str) = ("fill" : Str)) = False := by decide +kernel
@[simp] theorem ne_steps_mark : (("steps" : Str) = ("mark" : Str)) = False := by decide +kernel
@[simp] theorem ne_steps_go : (("steps" : Str) = ("go" : Str)) = False := by decide +kernel
@[simp] theorem ne_steps_span : (("steps" : Str) = ("span" : Str)) = False := by decide +kernel
@[simp] theorem ne_fill_left : (("fill" : Str) = ("left" : Str)) = False := by decide +kernel
@[simp] theorem ne_fill_right : (("fill" : Str) = ("right" : Str)) = False := by decide +kernel
@[simp] theorem ne_fill_turn : (("fill" : Str) = ("turn" : Str)) = False := by decide +kernel
@[simp] theorem ne_fill_gap : (("fill" : Str) = ("gap" : Str)) = False := by decide +kernel
@[simp] theorem ne_fill_rest : (("fill" : Str) = ("rest" : Str)) = False := by decide +kernel
@[simp] theorem ne_fill_steps : (("fill" : Str) = ("steps" : Str)) = False := by decide +kernel
@[simp] theorem ne_fill_mark : (("fill" : Str) = ("mark" : Str)) = False := by decide +kernel
@[simp] theorem ne_fill_go : (("fill" : Str) = ("go" : Str)) = False := by decide +kernel
@[simp] theorem ne_fill_span : (("fill" : Str) = ("span" : Str)) = False := by decide +kernel
@[simp] theorem ne_mark_left : (("mark" : Str) = ("left" : Str)) = False := by decide +kernel
@[simp] theorem ne_mark_right : (("mark" : Str) = ("right" : Str)) = False := by decide +kernel
@[simp] theorem ne_mark_turn : (("mark" : Str) = ("turn" : Str)) = False := by decide +kernel
@[simp] theorem ne_mark_gap : (("mark" : Str) = ("gap" : Str)) = False := by decide +kernel
@[simp] theorem ne_mark_rest : (("mark" : Str) = ("rest" : Str)) = False := by decide +kernel
@[simp] theorem ne_mark_steps : (("mark" : Str) = ("steps" : Str)) = False := by decide +kernel
@[simp] theorem ne_mark_fill : (("mark" : Str) = ("fill" : Str)) = False := by decide +kernel
@[simp] theorem ne_mark_go : (("mark" : Str) = ("go" : Str)) = False := by decide +kernel
@[simp] theorem ne_mark_span : (("mark" : Str) = ("span" : Str)) = False := by decide +kernel
@[simp] theorem ne_go_left : (("go" : Str) = ("left" : Str)) = False := by decide +kernel
@[simp] theorem ne_go_right : (("go" : Str) = ("right" : Str)) = False := by decide +kernel
@[simp] theorem ne_go_turn : (("go" : Str) = ("turn" : Str)) = False := by decide +kernel
@[simp] theorem ne_go_gap : (("go" : Str) = ("gap" : Str)) = False := by decide +kernel
@[simp] theorem ne_go_rest : (("go" : Str) = ("rest" : Str)) = False := by decide +kernel
@[simp] theorem ne_go_steps : (("go" : Str) = ("steps" : Str)) = False := by decide +kernel
@[simp] theorem ne_go_fill : (("go" : Str) = ("fill" : Str)) = False := by decide +kernel
@[simp] theorem ne_go_mark : (("go" : Str) = ("mark" : Str)) = False := by decide +kernel
@[simp] theorem ne_go_span : (("go" : Str) = ("span" : Str)) = False := by decide +kernel
@[simp] theorem ne_span_left : (("span" : Str) = ("left" : Str)) = False := by decide +kernel
@[simp] theorem ne_span_right : (("span" : Str) = ("right" : Str)) = False := by decide +kernel
@[simp] theorem ne_span_turn : (("span" : Str) = ("turn" : Str)) = False := by decide +kernel
@[simp] theorem ne_span_gap : (("span" : Str) = ("gap" : Str)) = False := by decide +kernel
@[simp] theorem ne_span_rest : (("span" : Str) = ("rest" : Str)) = False := by decide +kernel
@[simp] theorem ne_span_steps : (("span" : Str) = ("steps" : Str)) = False := by decide +kernel
@[simp] theorem ne_span_fill : (("span" : Str) = ("fill" : Str)) = False := by decide +kernel
@[simp] theorem ne_span_mark : (("span" : Str) = ("mark" : Str)) = False := by decide +kernel
@[simp] theorem ne_span_go : (("span" : Str) = ("go" : Str)) = False := by decide +kernel
end LW

namespace LW
open PySem PySem.Spec PyProof.Rows L2 DL
/-! the board's line: in whole parts of the board -/
structure Ln where
  o : Int
  p : Int
  r : Bool
  ms : List (Str × Int)
  cs : List Int
  b : Int
structure Ln.Ok (L : Ln) : Prop where
  o1 : 1 ≤ L.o
  ob : L.o ≤ L.b
  p0 : 0 ≤ L.p
  pb : L.p ≤ L.b
  b9 : L.b ≤ 10 ^ 17
  m0 : ∀ q ∈ L.ms, 0 ≤ q.2 ∧ q.2 ≤ L.b
  nd : (L.ms.map (·.1)).Nodup
def Ln.room (L : Ln) : Int := if L.r = true then L.b - L.p else L.p
theorem Ln.Ok.rm {L : Ln} (h : L.Ok) : 0 ≤ L.room ∧ L.room ≤ L.b := by
  have := h.p0
  have := h.pb
  unfold Ln.room
  split <;> omega
theorem Ln.Ok.b1 {L : Ln} (h : L.Ok) : 1 ≤ L.b := by
  have := h.o1
  have := h.ob
  omega
inductive Dd where
  | left | right | turn | gap | rest
  | steps (n : Int) | fill (n : Int)
  | mark (a : Str) | go (a : Str) | span (a c : Str)
def Dd.D : Dd → D
  | .left => .tup [.str "left"]
  | .right => .tup [.str "right"]
  | .turn => .tup [.str "turn"]
  | .gap => .tup [.str "gap"]
  | .rest => .tup [.str "rest"]
  | .steps n => .tup [.str "steps", .int n]
  | .fill n => .tup [.str "fill", .int n]
  | .mark a => .tup [.str "mark", .str a]
  | .go a => .tup [.str "go", .str a]
  | .span a c => .tup [.str "span", .str a, .str c]
/-- a name of a mark -/
def nmOk (a : Str) : Prop := 1 ≤ a.cps.toList.length ∧ a.cps.toList.length ≤ 8 ∧ ∀ c ∈ a.cps.toList, 97 ≤ c ∧ c ≤ 122
def Dd.Ok : Dd → Prop
  | .steps n => 1 ≤ n ∧ n ≤ 99
  | .fill n => 1 ≤ n ∧ n ≤ 99
  | .mark a => nmOk a
  | .go a => nmOk a
  | .span a c => nmOk a ∧ nmOk c
  | _ => True
/-- no mark -/
def Dd.bare : Dd → Bool
  | .mark _ => false
  | .go _ => false
  | .span _ _ => false
  | _ => true
def sle (a b : Str × Int) : Bool := decide (a.1.cps.toList ≤ b.1.cps.toList)
def srt (ms : List (Str × Int)) : List (Str × Int) := ms.mergeSort sle
def mkD (ms : List (Str × Int)) (b : Int) : List D := (srt ms).map fun q => .tup [.str q.1, prD (rr q.2 b)]
def Ln.S (L : Ln) : D := .tup [prD (rr L.o L.b), prD (rr L.p L.b), .bl L.r, .tup (mkD L.ms L.b), .tup (L.cs.map .int)]
def lkm (ms : List (Str × Int)) (a : Str) : Option Int := ms.lookup a
def putM (ms : List (Str × Int)) (a : Str) (v : Int) : List (Str × Int) := if (ms.any fun q => decide (q.1 = a)) = true then ms.map (fun q => if q.1 = a then (q.1, v) else q) else ms ++ [(a, v)]
def unm (a : Str) : D := .tup [.str "unmarked", .str a]
def Ln.why (L : Ln) : Dd → Option D
  | .steps n => if n * L.o > L.room then some (.str "beyond") else none
  | .gap => if L.room = 0 then some (.str "nothing") else none
  | .go a => match lkm L.ms a with
    | none => some (unm a)
    | some _ => none
  | .span a c => match lkm L.ms a, lkm L.ms c with
    | none, _ => some (unm a)
    | some _, none => some (unm c)
    | some m, some n => if m = n then some (.str "nothing") else none
  | _ => none
def Ln.mv (L : Ln) (k : Int) : Ln := { L with p := L.p + (if L.r = true then k else -k) * L.o }
def Ln.cnt (L : Ln) (n : Int) : Int := if L.room / L.o < n then L.room / L.o else n
def dist (m n : Int) : Int := if m - n < 0 then -(m - n) else m - n
def Ln.done (L : Ln) : Dd → Ln
  | .left => { L with p := 0, r := true }
  | .right => { L with p := L.b, r := false }
  | .turn => { L with r := !L.r }
  | .gap => { L with o := L.room }
  | .rest => L
  | .steps n => L.mv n
  | .fill n => { L.mv (L.cnt n) with cs := L.cs ++ [L.cnt n] }
  | .mark a => { L with ms := putM L.ms a L.p }
  | .go a => { L with p := (lkm L.ms a).getD 0 }
  | .span a c => { L with o := dist ((lkm L.ms a).getD 0) ((lkm L.ms c).getD 0) }
def Ln.told (L : Ln) : Dd → D
  | .fill n => .int (L.cnt n)
  | .rest => .bl (decide (L.room = 0))
  | _ => .non
theorem Ln.Ok.mvOk {L : Ln} (h : L.Ok) {k : Int} (h0 : 0 ≤ k) (h1 : k * L.o ≤ L.room) : (L.mv k).Ok := by
  have hk : 0 ≤ k * L.o := Int.mul_nonneg h0 (by have := h.o1; omega)
  have hn : (-k) * L.o = -(k * L.o) := Int.neg_mul _ _
  refine ⟨h.o1, h.ob, ?_, ?_, h.b9, h.m0, h.nd⟩
  all_goals
    show _ ≤ _
    have := h.p0
    have := h.pb
    unfold Ln.room at h1
    simp only [Ln.mv]
    cases e : L.r <;> simp only [e, Bool.false_eq_true, if_false, if_true] at h1 ⊢ <;> omega
theorem Ln.Ok.cntOk {L : Ln} (h : L.Ok) {n : Int} (hn : 0 ≤ n) : 0 ≤ L.cnt n ∧ L.cnt n ≤ n ∧ L.cnt n * L.o ≤ L.room := by
  obtain ⟨q1, q2⟩ := ediv_of (x := L.room) (y := L.o) (by have := h.o1; omega)
  have q0 : 0 ≤ L.room / L.o := Int.ediv_nonneg h.rm.1 (by have := h.o1; omega)
  unfold Ln.cnt
  split
  · exact ⟨q0, by omega, q1⟩
  · refine ⟨hn, by omega, ?_⟩
    have : n * L.o ≤ (L.room / L.o) * L.o := Int.mul_le_mul_of_nonneg_right (by omega) (by have := h.o1; omega)
    omega
theorem lkm_mem {ms : List (Str × Int)} {a : Str} {v : Int} (h : lkm ms a = some v) : (a, v) ∈ ms := by
  unfold lkm at h
  induction ms with
  | nil => simp at h
  | cons q r ih =>
    rw [List.lookup_cons] at h
    cases e : a == q.1 with
    | true =>
      rw [e] at h
      have : a = q.1 := by simpa using e
      cases h
      rw [this]; exact List.mem_cons_self
    | false =>
      rw [e] at h
      exact List.mem_cons_of_mem _ (ih h)
theorem Ln.Ok.doneOk {L : Ln} (h : L.Ok) {d : Dd} (hd : d.Ok) (hw : L.why d = none) : (L.done d).Ok := by
  have b1 := h.b1
  cases d with
  | left => exact ⟨h.o1, h.ob, Int.le_refl _, by show 0 ≤ L.b; omega, h.b9, h.m0, h.nd⟩
  | right => exact ⟨h.o1, h.ob, by show 0 ≤ L.b; omega, Int.le_refl _, h.b9, h.m0, h.nd⟩
  | turn => exact ⟨h.o1, h.ob, h.p0, h.pb, h.b9, h.m0, h.nd⟩
  | rest => exact h
  | gap =>
    have := h.rm
    unfold Ln.why at hw
    by_cases e : L.room = 0
    · simp [e] at hw
    · exact ⟨by show 1 ≤ L.room; omega, h.rm.2, h.p0, h.pb, h.b9, h.m0, h.nd⟩
  | steps n =>
    unfold Ln.why at hw
    by_cases e : n * L.o > L.room
    · simp [e] at hw
    · exact h.mvOk (by have := hd.1; omega) (by omega)
  | fill n =>
    obtain ⟨c0, _, c1⟩ := h.cntOk (n := n) (by have := hd.1; omega)
    have k := h.mvOk c0 c1
    exact ⟨k.o1, k.ob, k.p0, k.pb, k.b9, k.m0, k.nd⟩
  | mark a =>
    refine ⟨h.o1, h.ob, h.p0, h.pb, h.b9, fun q hq => ?_, ?_⟩
    · have hq : q ∈ putM L.ms a L.p := hq
      unfold putM at hq
      split at hq
      · obtain ⟨q', h1, h2⟩ := List.mem_map.mp hq
        split at h2
        · rw [← h2]; exact ⟨h.p0, h.pb⟩
        · rw [← h2]; exact h.m0 _ h1
      · rcases List.mem_append.mp hq with h1 | h1
        · exact h.m0 _ h1
        · simp at h1; rw [h1]; exact ⟨h.p0, h.pb⟩
    · show ((putM L.ms a L.p).map (·.1)).Nodup
      unfold putM
      split
      · have e : (L.ms.map (fun q => if q.1 = a then (q.1, L.p) else q)).map (·.1) = L.ms.map (·.1) := by
          rw [List.map_map]
          apply List.map_congr_left
          intro q _
          simp only [Function.comp]
          split <;> rfl
        rw [e]; exact h.nd
      · rename_i e
        rw [List.map_append, List.nodup_append]
        refine ⟨h.nd, by simp, fun x hx y hy => ?_⟩
        simp at hy
        obtain ⟨q, hq, rfl⟩ := List.mem_map.mp hx
        intro k
        refine e (List.any_eq_true.mpr ⟨q, hq, ?_⟩)
        rw [k, hy]; simp
  | go a =>
    unfold Ln.why at hw
    cases e : lkm L.ms a with
    | none => simp [e] at hw
    | some v =>
      have := h.m0 _ (lkm_mem e)
      refine ⟨h.o1, h.ob, ?_, ?_, h.b9, h.m0, h.nd⟩
      · show 0 ≤ (lkm L.ms a).getD 0; rw [e]; exact this.1
      · show (lkm L.ms a).getD 0 ≤ L.b; rw [e]; exact this.2
  | span a c =>
    unfold Ln.why at hw
    cases e : lkm L.ms a with
    | none => simp [e] at hw
    | some m =>
      cases e2 : lkm L.ms c with
      | none => simp [e, e2] at hw
      | some n =>
        have k1 := h.m0 _ (lkm_mem e)
        have k2 := h.m0 _ (lkm_mem e2)
        have ne : m ≠ n := fun q => by simp [e, e2, q] at hw
        have k1 : 0 ≤ m ∧ m ≤ L.b := k1
        have k2 : 0 ≤ n ∧ n ≤ L.b := k2
        refine ⟨?_, ?_, h.p0, h.pb, h.b9, h.m0, h.nd⟩
        · show 1 ≤ dist ((lkm L.ms a).getD 0) ((lkm L.ms c).getD 0)
          rw [e, e2]; show 1 ≤ dist m n; unfold dist; split <;> omega
        · show dist ((lkm L.ms a).getD 0) ((lkm L.ms c).getD 0) ≤ L.b
          rw [e, e2]; show dist m n ≤ L.b; unfold dist; split <;> omega
end LW

namespace LW
open PySem PySem.Spec PyProof.Rows L2 DL
@[simp] theorem cut5_1 (a b c d e : D) : DL.cutD [a, b, c, d, e] (some 1) none = [b, c, d, e] := rfl
@[simp] theorem cut5_2 (a b c d e : D) : DL.cutD [a, b, c, d, e] (some 2) none = [c, d, e] := rfl
@[simp] theorem cut5_3 (a b c d e : D) : DL.cutD [a, b, c, d, e] (some 3) none = [d, e] := rfl
@[simp] theorem cut5_n2 (a b c d e : D) : DL.cutD [a, b, c, d, e] none (some 2) = [a, b] := rfl
@[simp] theorem cut5_n4 (a b c d e : D) : DL.cutD [a, b, c, d, e] none (some 4) = [a, b, c, d] := rfl
theorem w_state_gap (L : Ln) (h : L.Ok) (Q : D → Zs → Prop) (X : Er → Zs → Prop) (z : Zs) (hq : Q (prD (rr L.room L.b)) z) : m_state_gap [L.S] Q X z := by
  rw [me_state_gap]
  have e := rr_gap h.p0 h.b1 h.pb
  unfold Ln.room at hq
  simp [s_state_gap, Ln.S, prD]
  refine ⟨fun k => ?_, fun k => ?_⟩
  · rw [if_pos k, ← e] at hq
    exact hq
  · rw [if_neg (by simp [k])] at hq
    exact hq
theorem w_state_fits (L : Ln) (h : L.Ok) (Q : D → Zs → Prop) (X : Er → Zs → Prop) (z : Zs) (hq : Q (.int (L.room / L.o)) z) : m_state_fits [L.S] Q X z := by
  rw [me_state_fits]
  simp [s_state_fits, Ln.S]
  rw [show D.tup [prD (rr L.o L.b), prD (rr L.p L.b), D.bl L.r, D.tup (mkD L.ms L.b), D.tup (List.map D.int L.cs)] = L.S from rfl]
  refine w_state_gap L h _ _ z ?_
  have hr := h.rm
  have b9 := h.b9
  have o1 := h.o1
  have ob := h.ob
  obtain ⟨g, A⟩ := rr_pl hr.1 h.b1
  obtain ⟨k, B⟩ := rr_pl (u := L.o) (v := L.b) (by omega) h.b1
  have e := rr_fits hr.1 h.b1 h.o1
  have y0 : (rr L.o L.b).1 ≠ 0 := fun q => by have := (rr_eq0 (by omega) h.b1).mp q; omega
  have a1 := A.n9
  have a2 := A.d9
  have a3 := A.n0
  have a4 := A.d1
  have b1 := B.n9
  have b2 := B.d9
  have b3 := B.n0
  have b4 := B.d1
  have pos : 0 < (rr L.room L.b).2 * (rr L.o L.b).1 := Int.mul_pos (by omega) (by omega)
  have le : (rr L.room L.b).2 * (rr L.o L.b).1 ≤ 10 ^ 17 * 10 ^ 17 := Int.mul_le_mul (by omega) (by omega) (by omega) (by omega)
  have m1 : MulC (rr L.room L.b).1 (rr L.o L.b).2 := mulC_l (by omega)
  have m2 : MulC (rr L.room L.b).2 (rr L.o L.b).1 := mulC_l (by omega)
  have lg : ((rr L.room L.b).2 * (rr L.o L.b).1).natAbs.log2 < 9000 := log_lt2 (by omega)
  have n0 : ¬ (rr L.room L.b).2 = 0 := by omega
  simp [Ln.S, prD, m1, m2, n0, y0, lg, e, hq]
theorem w_state_moved (L : Ln) (h : L.Ok) (k : Int) (h0 : 0 ≤ k) (h1 : k * L.o ≤ L.room) (Q : D → Zs → Prop) (X : Er → Zs → Prop) (z : Zs) (hq : Q (L.mv k).S z) : m_state_moved [L.S, .int k] Q X z := by
  rw [me_state_moved]
  have km := h.mvOk h0 h1
  have e := rr_moved (p := L.p) (o := L.o) (b := L.b) (w := if L.r = true then k else -k) h.p0 h.b1 (by have := h.o1; omega) km.p0
  have b9 := h.b9
  have o1 := h.o1
  have ob := h.ob
  have p0 := h.p0
  have pb := h.pb
  obtain ⟨g, A⟩ := rr_pl h.p0 h.b1
  obtain ⟨j, B⟩ := rr_pl (u := L.o) (v := L.b) (by omega) h.b1
  have a1 := A.n9
  have a2 := A.d9
  have a3 := A.n0
  have a4 := A.d1
  have b1 := B.n9
  have b2 := B.d9
  have b3 := B.n0
  have b4 := B.d1
  have kb : k ≤ 10 ^ 17 := by
    have : k * 1 ≤ k * L.o := Int.mul_le_mul_of_nonneg_left o1 h0
    have := h.rm
    omega
  have m1 : MulC (rr L.p L.b).1 (rr L.o L.b).2 := mulC_l (by omega)
  have m2 : MulC (if L.r = true then k else -k) (rr L.o L.b).1 := mulC_l (by split <;> omega)
  have m3 : MulC ((if L.r = true then k else -k) * (rr L.o L.b).1) (rr L.p L.b).2 := mulC_r (by omega)
  have m4 : MulC (rr L.p L.b).2 (rr L.o L.b).2 := mulC_l (by omega)
  have pos : 0 < (rr L.p L.b).2 * (rr L.o L.b).2 := Int.mul_pos (by omega) (by omega)
  have le : (rr L.p L.b).2 * (rr L.o L.b).2 ≤ 10 ^ 17 * 10 ^ 17 := Int.mul_le_mul (by omega) (by omega) (by omega) (by omega)
  have hq' : Q (.tup [prD (rr L.o L.b), prD (rr (L.p + (if L.r = true then k else -k) * L.o) L.b), .bl L.r, .tup (mkD L.ms L.b), .tup (L.cs.map .int)]) z := hq
  rw [← e] at hq'
  unfold s_state_moved Ln.S
  cases er : L.r
  all_goals
    simp only [er, Bool.false_eq_true, if_false, if_true] at m2 m3 hq'
    simp [prD, m1, m2, m3, m4]
    refine w_fraction _ _ _ _ z (by omega) (fun q => by omega) fun _ => ?_
    rw [rat_rr]
    simpa [prD] using hq'
theorem w_state_set (L : Ln) (m : Int) (h : L.Ok) (hm : 0 ≤ m) (Q : D → Zs → Prop) (X : Er → Zs → Prop) (z : Zs) (h0 : m = 0 → Q (.tup [L.S, .non, .str "nothing"]) z) (h1 : m ≠ 0 → Q (.tup [({ L with o := m } : Ln).S, .non, .non]) z) : m_state_set [L.S, prD (rr m L.b)] Q X z := by
  rw [me_state_set]
  have e := rr_eq0 hm h.b1
  simp [s_state_set, Ln.S, prD]
  refine ⟨fun k => ?_, fun k => ?_⟩
  · exact h0 (e.mp k)
  · have := h1 (fun q => k (e.mpr q))
    simpa [Ln.S, prD] using this
/-- a deed without marks -/
theorem w_act_bare (L : Ln) (h : L.Ok) (d : Dd) (hd : d.Ok) (hb : d.bare = true) (hc : L.cs.length < 1000000) (Q : D → Zs → Prop) (X : Er → Zs → Prop) (z : Zs) (h0 : L.why d = none → Q (.tup [(L.done d).S, L.told d, .non]) z) (h1 : ∀ y, L.why d = some y → Q (.tup [L.S, .non, y]) z) :
    m_act_on [L.S, d.D] Q X z := by
  rw [me_act_on]
  have sS : L.S = D.tup [prD (rr L.o L.b), prD (rr L.p L.b), D.bl L.r, D.tup (mkD L.ms L.b), D.tup (L.cs.map D.int)] := rfl
  cases d with
  | left =>
    have := h0 rfl
    simp [s_act_on, Dd.D, sS]
    simpa [Ln.S, Ln.done, Ln.told, prD, rr_zero h.b1] using this
  | right =>
    have := h0 rfl
    simp [s_act_on, Dd.D, sS]
    simpa [Ln.S, Ln.done, Ln.told, prD, rr_one h.b1] using this
  | turn =>
    have := h0 rfl
    simp [s_act_on, Dd.D, sS]
    simpa [Ln.S, Ln.done, Ln.told, prD] using this
  | gap =>
    simp [s_act_on, Dd.D]
    refine w_state_gap L h _ _ z ?_
    refine w_state_set L L.room h h.rm.1 _ _ z (fun k => ?_) (fun k => ?_)
    · exact h1 _ (by simp [Ln.why, k])
    · exact h0 (by simp [Ln.why, k])
  | rest =>
    have := h0 rfl
    simp [s_act_on, Dd.D]
    refine w_state_gap L h _ _ z ?_
    simp [prD]
    have e := rr_eq0 h.rm.1 h.b1
    simpa [Ln.done, Ln.told, e] using this
  | steps n =>
    simp [s_act_on, Dd.D]
    refine w_state_fits L h _ _ z ?_
    simp
    obtain ⟨q1, q2⟩ := ediv_of (x := L.room) (y := L.o) (by have := h.o1; omega)
    have n1 := hd.1
    have o1 := h.o1
    refine ⟨fun k => ?_, fun k => ?_⟩
    · refine h1 _ ?_
      have : (L.room / L.o + 1) * L.o ≤ n * L.o := Int.mul_le_mul_of_nonneg_right (by omega) (by omega)
      simp [Ln.why]; omega
    · have : n * L.o ≤ (L.room / L.o) * L.o := Int.mul_le_mul_of_nonneg_right (by omega) (by omega)
      refine w_state_moved L h n (by omega) (by omega) _ _ z ?_
      exact h0 (by simp [Ln.why]; omega)
  | fill n =>
    have := h0 rfl
    obtain ⟨c0, c1, c2⟩ := h.cntOk (n := n) (by have := hd.1; omega)
    simp [s_act_on, Dd.D]
    refine w_state_fits L h _ _ z ?_
    have ec : (if L.room / L.o < n then L.room / L.o else n) = L.cnt n := rfl
    simp [ec]
    refine w_state_moved L h _ c0 c2 _ _ z ?_
    have e : (L.mv (L.cnt n)).cs = L.cs := rfl
    simp [Ln.S, e]
    refine ⟨by omega, ?_⟩
    simpa [Ln.S, Ln.done, Ln.told] using this
  | mark a => cases hb
  | go a => cases hb
  | span a c => cases hb
end LW

namespace LW
open PySem PySem.Spec PyProof.Rows L2 DL
/-! the law's line among the things that change -/
abbrev lnL (L : Ln) (j : Nat) : List D := [.int L.o, .int L.p, .bl L.r, .mc j, .lst (L.cs.map .int), .int L.b]
abbrev lnK (L : Ln) : List Key := L.ms.map fun q => .inr q.1
abbrev lnV (L : Ln) : List D := L.ms.map fun q => .int q.2
structure LnAt (z : Zs) (k j : Nat) (L : Ln) : Prop where
  ne : j ≠ k
  hk : z.cs[k]? = some (.lst (lnL L j))
  hj : z.cs[j]? = some (.dic (lnK L) (lnV L))
/-- all else stays -/
structure Oth (z z' : Zs) (k j : Nat) : Prop where
  n : z'.n = z.n
  len : z'.cs.length = z.cs.length
  ke : ∀ i, i ≠ k → i ≠ j → z'.cs[i]? = z.cs[i]?
theorem Oth.refl {z : Zs} {k j : Nat} : Oth z z k j := ⟨rfl, rfl, fun _ _ _ => rfl⟩
theorem cs_set {z : Zs} {k : Nat} {c0 c : MC} (h : z.cs[k]? = some c0) : (z.cs.set k c)[k]? = some c := List.getElem?_set_self (List.getElem?_eq_some_iff.mp h).1
theorem LnAt.drk {z : Zs} {k j : Nat} {L : Ln} (h : LnAt z k j L) : dr z (.mc k) = .lst (lnL L j) := dr_L h.hk
theorem LnAt.drj {z : Zs} {k j : Nat} {L : Ln} (h : LnAt z k j L) : dr z (.mc j) = .dic (lnK L) (lnV L) := dr_D h.hj
/-- the line's own list changes -/
theorem LnAt.setk {z : Zs} {k j : Nat} {L L' : Ln} (h : LnAt z k j L) (e : L'.ms = L.ms) : LnAt { z with cs := z.cs.set k (.lst (lnL L' j)) } k j L' ∧ Oth z { z with cs := z.cs.set k (.lst (lnL L' j)) } k j := by
  refine ⟨⟨h.ne, cs_set h.hk, ?_⟩, ⟨rfl, by simp, fun i h1 _ => ?_⟩⟩
  · show (z.cs.set k _)[j]? = _
    rw [List.getElem?_set_ne (Ne.symm h.ne), h.hj]
    unfold lnK lnV
    rw [e]
  · show (z.cs.set k _)[i]? = _
    rw [List.getElem?_set_ne (Ne.symm h1)]
theorem Oth.trans {z z1 z2 : Zs} {k j : Nat} (a : Oth z z1 k j) (b : Oth z1 z2 k j) : Oth z z2 k j := ⟨b.n.trans a.n, b.len.trans a.len, fun i h1 h2 => (b.ke i h1 h2).trans (a.ke i h1 h2)⟩
@[simp] theorem ix6_0 : ixN 6 0 = some 0 := by decide
@[simp] theorem ix6_1 : ixN 6 1 = some 1 := by decide
@[simp] theorem ix6_2 : ixN 6 2 = some 2 := by decide
@[simp] theorem ix6_4 : ixN 6 4 = some 4 := by decide
theorem w__law_ds_room {z : Zs} {k j : Nat} {L : Ln} (h : LnAt z k j L) (Q : D → Zs → Prop) (X : Er → Zs → Prop) (hq : Q (.int L.room) z) : m__law_ds_room [.mc k] Q X z := by
  rw [me__law_ds_room]
  unfold Ln.room at hq
  simp [s__law_ds_room, h.drk]
  refine ⟨fun e => ?_, fun e => ?_⟩
  · rw [if_pos e] at hq; exact hq
  · rw [if_neg (by simp [e])] at hq; exact hq
theorem mul_ok {L : Ln} (h : L.Ok) {n : Int} (h1 : -1000000 ≤ n) (h2 : n ≤ 1000000) : MulC n L.o := mulC_l (by omega)
/-- why a deed without marks fails -/
theorem w_why_bare {z : Zs} {k j : Nat} {L : Ln} (h : LnAt z k j L) (ok : L.Ok) (d : Dd) (hd : d.Ok) (hb : d.bare = true) (Q : List D → Zs → Prop) (X : Er → Zs → Prop) (hq : Q (L.why d).toList z) : m__law_ds_why [.mc k, d.D] Q X z := by
  rw [me__law_ds_why]
  cases d <;> first | (cases hb; done) | skip
  all_goals
    simp [s__law_ds_why, Dd.D]
    refine w__law_ds_room h _ _ ?_
    try simp [h.drk]
  all_goals first
    | (simpa [Ln.why] using hq; done)
    | skip
  · unfold Ln.why at hq
    refine ⟨fun e => ?_, fun e => ?_⟩
    · rw [if_pos e] at hq; simpa using hq
    · rw [if_neg e] at hq; simpa using hq
  · rename_i n
    unfold Ln.why at hq
    refine ⟨mul_ok ok (by have := hd.1; omega) (by have := hd.2; omega), fun e => ?_, fun e => ?_⟩
    · have e : n * L.o > L.room := by omega
      simp only [e, if_true] at hq; simpa using hq
    · have e : ¬ n * L.o > L.room := by omega
      simp only [e, if_false] at hq; simpa using hq
theorem fin_line {z : Zs} {k j : Nat} {L L' : Ln} (h : LnAt z k j L) (e : L'.ms = L.ms) {Q : D → Zs → Prop} {t : D} (hq : ∀ z', LnAt z' k j L' → Oth z z' k j → Q t z') : Q t { z with cs := z.cs.set k (.lst (lnL L' j)) } := hq _ (h.setk e).1 (h.setk e).2
theorem w_done_bare {z : Zs} {k j : Nat} {L : Ln} (h : LnAt z k j L) (ok : L.Ok) (d : Dd) (hd : d.Ok) (hb : d.bare = true) (hw : L.why d = none) (hc : L.cs.length < 1000000) (Q : D → Zs → Prop) (X : Er → Zs → Prop) (hq : ∀ z', LnAt z' k j (L.done d) → Oth z z' k j → Q (L.told d) z') : m__law_ds_done [.mc k, d.D] Q X z := by
  rw [me__law_ds_done]
  have hk := h.hk
  have two : ∀ c1 c2 : MC, (z.cs.set k c1).set k c2 = z.cs.set k c2 := fun c1 c2 => List.set_set ..
  have s1 : ∀ ds, dr { n := z.n, cs := z.cs.set k (.lst ds) } (.mc k) = .lst ds := fun ds => dr_L (cs_set hk)
  have s2 : ∀ c, (z.cs.set k c)[k]? = some c := fun c => cs_set hk
  have mvE : ∀ c : Int, c * 0 = 0 := fun c => Int.mul_zero c
  cases d <;> first | (cases hb; done) | skip
  all_goals
    simp [s__law_ds_done, Dd.D]
    refine w__law_ds_room h _ _ ?_
    simp [h.drk, hk]
  · -- left
    have := (h.setk (L' := { L with p := 0 }) rfl)
    simp [s2, two]
    exact fin_line (L' := L.done .left) h rfl hq
  · simp [s2, two]
    exact fin_line (L' := L.done .right) h rfl hq
  · exact fin_line (L' := L.done .turn) h rfl hq
  · exact fin_line (L' := L.done .gap) h rfl hq
  · exact hq z h Oth.refl
  · rename_i n
    have e := fin_line (L' := L.done (.steps n)) h rfl hq
    obtain ⟨n1, n2⟩ := hd
    refine ⟨.int (if L.r = true then 1 else -1), by cases L.r <;> rfl, ?_⟩
    simp
    refine ⟨mulC_r (by omega), mulC_l (by split <;> omega), ?_⟩
    have ep : L.p + (if L.r = true then 1 else -1) * n * L.o = (L.mv n).p := by
      show _ = L.p + (if L.r = true then n else -n) * L.o
      split <;> simp
    rw [ep]
    exact e
  · rename_i n
    obtain ⟨n1, n2⟩ := hd
    obtain ⟨c0, c1, c2⟩ := ok.cntOk (n := n) (by omega)
    have lg : L.o.natAbs.log2 < 9000 := log_lt2 (by have := ok.o1; have := ok.ob; have := ok.b9; omega)
    have o0 : ¬ L.o = 0 := by have := ok.o1; omega
    have ed : L.room.fdiv L.o = L.room / L.o := Int.fdiv_eq_ediv_of_nonneg _ (by have := ok.o1; omega)
    have ec : (if L.room / L.o < n then L.room / L.o else n) = L.cnt n := rfl
    simp [lg, o0, ed, ec]
    refine ⟨.int (if L.r = true then 1 else -1), by cases L.r <;> rfl, ?_⟩
    simp
    refine ⟨mulC_r (by omega), mulC_l (by split <;> omega), ?_⟩
    have ep : L.p + (if L.r = true then 1 else -1) * L.cnt n * L.o = (L.mv (L.cnt n)).p := by
      show _ = L.p + (if L.r = true then L.cnt n else -L.cnt n) * L.o
      split <;> simp
    rw [ep]
    simp [s1, s2, two]
    refine ⟨by omega, ?_⟩
    have e := fin_line (L' := L.done (.fill n)) h rfl hq
    simpa [lnL, Ln.done, Ln.mv, Ln.told] using e
end LW

namespace LW
open PySem PySem.Spec PyProof.Rows L2 DL
theorem dEqG_of {a b : D} {t : Bool} (h1 : a.isPy = true) (h2 : b.isPy = true) (h3 : SeqAt.shaped a.py = true) (h4 : SeqAt.shaped b.py = true) (h5 : PyData.eqv a.py b.py = t) (Q : Bool → Prop) : dEqG a b Q = Q t := by
  unfold dEqG
  rw [h5]
  simp [h1, h2, h3, h4]
section
variable (s a b : Str) (n : Int) (Q : Bool → Prop)
@[simp] theorem eq_l0 : dEqG (.lst []) (.lst []) Q = Q true := dEqG_of rfl rfl (by decide) (by decide) (by simp [D.py, pyL, PyData.eqv, PyData.eqvAll]) Q
theorem eq_l1 (hs : PyData.strOk s = true) : dEqG (.lst [.str s]) (.lst []) Q = Q false := dEqG_of rfl rfl (by simp [D.py, pyL, SeqAt.shaped, PyData.canLay0, PyData.canLayAll0, PyData.depth, PyData.depthAll, hs]) (by decide) (by simp [D.py, pyL, PyData.eqv, PyData.eqvAll]) Q
theorem eq_lu (hs : PyData.strOk s = true) (ha : PyData.strOk a = true) : dEqG (.lst [.tup [.str s, .str a]]) (.lst []) Q = Q false := dEqG_of rfl rfl (by simp [D.py, pyL, SeqAt.shaped, PyData.canLay0, PyData.canLayAll0, PyData.depth, PyData.depthAll, hs, ha]) (by decide) (by simp [D.py, pyL, PyData.eqv, PyData.eqvAll]) Q
end
@[simp] theorem eq_lb (Q : Bool → Prop) : dEqG (.lst [.str "beyond"]) (.lst []) Q = Q false := eq_l1 _ Q (by decide +kernel)
@[simp] theorem eq_ln (Q : Bool → Prop) : dEqG (.lst [.str "nothing"]) (.lst []) Q = Q false := eq_l1 _ Q (by decide +kernel)
theorem eq_lm (a : Str) (Q : Bool → Prop) (ha : PyData.strOk a = true) : dEqG (.lst [unm a]) (.lst []) Q = Q false := eq_lu _ a Q (by decide +kernel) ha
theorem eq_t1 (s : Str) (Q : Bool → Prop) (hs : PyData.strOk s = true) : dEqG (.tup [.str s]) (.tup []) Q = Q false := dEqG_of rfl rfl (by simp [D.py, pyL, SeqAt.shaped, PyData.canLay0, PyData.canLayAll0, PyData.depth, PyData.depthAll, hs]) (by decide) (by simp [D.py, pyL, PyData.eqv, PyData.eqvAll]) Q
theorem eq_t2 (s : Str) (n : Int) (Q : Bool → Prop) (hs : PyData.strOk s = true) : dEqG (.tup [.str s, .int n]) (.tup []) Q = Q false := dEqG_of rfl rfl (by simp [D.py, pyL, SeqAt.shaped, PyData.canLay0, PyData.canLayAll0, PyData.depth, PyData.depthAll, hs]) (by decide) (by simp [D.py, pyL, PyData.eqv, PyData.eqvAll]) Q
@[simp] theorem eq_t_left (Q : Bool → Prop) : dEqG (.tup [.str "left"]) (.tup []) Q = Q false := eq_t1 _ Q (by decide +kernel)
@[simp] theorem eq_t_right (Q : Bool → Prop) : dEqG (.tup [.str "right"]) (.tup []) Q = Q false := eq_t1 _ Q (by decide +kernel)
@[simp] theorem eq_t_turn (Q : Bool → Prop) : dEqG (.tup [.str "turn"]) (.tup []) Q = Q false := eq_t1 _ Q (by decide +kernel)
@[simp] theorem eq_t_gap (Q : Bool → Prop) : dEqG (.tup [.str "gap"]) (.tup []) Q = Q false := eq_t1 _ Q (by decide +kernel)
@[simp] theorem eq_t_rest (Q : Bool → Prop) : dEqG (.tup [.str "rest"]) (.tup []) Q = Q false := eq_t1 _ Q (by decide +kernel)
@[simp] theorem eq_t_steps (n : Int) (Q : Bool → Prop) : dEqG (.tup [.str "steps", .int n]) (.tup []) Q = Q false := eq_t2 _ n Q (by decide +kernel)
@[simp] theorem eq_t_fill (n : Int) (Q : Bool → Prop) : dEqG (.tup [.str "fill", .int n]) (.tup []) Q = Q false := eq_t2 _ n Q (by decide +kernel)
@[simp] theorem dNotN_s (s : Str) (Q : D → Prop) : dNotN (.str s) .non Q = Q (.bl true) := propext Iff.rfl
@[simp] theorem dNotN_b (s : Bool) (Q : D → Prop) : dNotN (.bl s) .non Q = Q (.bl true) := propext Iff.rfl
theorem why_of {L : Ln} {d : Dd} {y : D} (h : L.why d = some y) : (∃ s, y = .str s) ∨ ∃ a, y = unm a := by
  cases d <;> simp only [Ln.why] at h
  all_goals first | cases h; done | skip
  · split at h <;> cases h; exact .inl ⟨_, rfl⟩
  · split at h <;> cases h; exact .inl ⟨_, rfl⟩
  · split at h <;> cases h; exact .inr ⟨_, rfl⟩
  · split at h
    · cases h; exact .inr ⟨_, rfl⟩
    · cases h; exact .inr ⟨_, rfl⟩
    · split at h <;> cases h; exact .inl ⟨_, rfl⟩
end LW

namespace LW
open PySem PySem.Spec PyProof.Rows L2 DL
/-- a list comprehension without draws over images -/
theorem lc_run {α : Type} (k : Nat) (ρ0 : Rho) (g f : α → D) (hw : ∀ d, wipeR (ρ0.set k (.fr d)) [k] = ρ0) (body : E D) (z : Zs) : ∀ (xs : List α) (acc : List D) (Q : List D → Rho → Zs → Prop) (X : Er → Rho → Zs → Prop),
    (∀ x ∈ xs, ∀ Q' : D → Rho → Zs → Prop, Q' (f x) (ρ0.set k (.fr (g x))) z → body (ρ0.set k (.fr (g x))) Q' (fun _ _ _ => False) z) → acc.length + xs.length ≤ 16777216 → Q (acc ++ xs.map f) ρ0 z → lcL [k] (gN k) (ep true) body (xs.map g) acc ρ0 Q X z := by
  intro xs
  induction xs with
  | nil => intro acc Q X _ _ h; simpa using h
  | cons x xs ih =>
    intro acc Q X hb hl h
    simp only [List.map_cons, List.length_cons] at hl h ⊢
    rw [lcL_cons]
    simp
    refine hb x (List.mem_cons_self ..) _ ⟨by omega, ?_⟩
    rw [hw]
    exact ih _ _ _ (fun y hy => hb y (List.mem_cons_of_mem _ hy)) (by simp; omega) (by simpa using h)
@[simp] theorem tb_left : List.lookup ("left" : Str) tb_DEED_THINGS = some (.tup [.int 0, .int 0]) := by kernel_rfl
@[simp] theorem tb_right : List.lookup ("right" : Str) tb_DEED_THINGS = some (.tup [.int 0, .int 0]) := by kernel_rfl
@[simp] theorem tb_steps : List.lookup ("steps" : Str) tb_DEED_THINGS = some (.tup [.int 1, .int 0]) := by kernel_rfl
@[simp] theorem tb_fill : List.lookup ("fill" : Str) tb_DEED_THINGS = some (.tup [.int 1, .int 0]) := by kernel_rfl
@[simp] theorem tb_gap : List.lookup ("gap" : Str) tb_DEED_THINGS = some (.tup [.int 0, .int 0]) := by kernel_rfl
@[simp] theorem tb_span : List.lookup ("span" : Str) tb_DEED_THINGS = some (.tup [.int 0, .int 2]) := by kernel_rfl
@[simp] theorem tb_mark : List.lookup ("mark" : Str) tb_DEED_THINGS = some (.tup [.int 0, .int 1]) := by kernel_rfl
@[simp] theorem tb_go : List.lookup ("go" : Str) tb_DEED_THINGS = some (.tup [.int 0, .int 1]) := by kernel_rfl
@[simp] theorem tb_turn : List.lookup ("turn" : Str) tb_DEED_THINGS = some (.tup [.int 0, .int 0]) := by kernel_rfl
@[simp] theorem tb_rest : List.lookup ("rest" : Str) tb_DEED_THINGS = some (.tup [.int 0, .int 0]) := by kernel_rfl
theorem dKey_s (tb : List (Str × D)) (s : Str) (Q : D → Prop) : dKey tb (.str s) Q = ∃ d, tb.lookup s = some d ∧ Q d := propext Iff.rfl
theorem dNotInK_s (tb : List (Str × D)) (s : Str) (Q : D → Prop) : dNotInK tb (.str s) Q = Q (.bl (!(tb.lookup s).isSome)) := propext Iff.rfl
theorem cut1 (a : D) (lo : Option Int) : DL.cutD [a] (some 1) none = [] := rfl
theorem cut2_2 (a b : D) : DL.cutD [a, b] (some 2) none = [] := rfl
/-- a deed without marks is one -/
theorem w_names_bare (d : Dd) (hb : d.bare = true) (Q : D → Zs → Prop) (X : Er → Zs → Prop) (z : Zs) (hq : Q (.tup []) z) : m_deed_names [d.D] Q X z := by
  rw [me_deed_names]
  cases d <;> first | (cases hb; done) | skip
  all_goals
    simp [s_deed_names, Dd.D, dKey_s]
    simpa [cut1, cut2_2] using hq
theorem w_checked_bare (d : Dd) (hd : d.Ok) (hb : d.bare = true) (Q : D → Zs → Prop) (X : Er → Zs → Prop) (z : Zs) (hq : Q d.D z) : m_checked_deed [d.D] Q X z := by
  have hn := w_names_bare d hb
  rw [me_checked_deed]
  cases d <;> first | (cases hb; done) | skip
  all_goals
    simp [s_checked_deed, Dd.D, dKey_s, dNotInK_s]
  all_goals
    first
    | (refine hn _ _ z ?_; simp; exact hq)
    | (refine ⟨fun e => absurd hd.1 (by omega), fun _ => ?_⟩; refine hn _ _ z ?_; simp; exact hq)
theorem w_kept (ds : List Dd) (chk : ∀ d ∈ ds, ∀ (Q : D → Zs → Prop) (X : Er → Zs → Prop) (z : Zs), Q d.D z → m_checked_deed [d.D] Q X z) (hl : ds.length < 1000000) (Q : List D → Zs → Prop) (X : Er → Zs → Prop) (z : Zs) (hq : Q (ds.map Dd.D) z) : m_kept_deeds [.lst (ds.map Dd.D)] Q X z := by
  rw [me_kept_deeds]
  simp [s_kept_deeds]
  refine lc_run 1 _ Dd.D Dd.D (fun d => rfl) _ z ds [] _ _ (fun d hd Q' h => ?_) (by simp; omega) (by simpa using hq)
  rw [p0_kept_deeds]
  simp
  exact chk d hd _ _ z h
theorem w_script (ds : List Dd) (chk : ∀ d ∈ ds, ∀ (Q : D → Zs → Prop) (X : Er → Zs → Prop) (z : Zs), Q d.D z → m_checked_deed [d.D] Q X z) (hl : ds.length < 1000000) (Q : List D → Zs → Prop) (X : Er → Zs → Prop) (z : Zs) (hq : Q [.lst (ds.map Dd.D)] z) : m_Script___init__ [.lst (ds.map Dd.D)] Q X z := by
  rw [me_Script___init__]
  simp [s_Script___init__]
  exact w_kept ds chk hl _ _ z hq
abbrev scD (ds : List Dd) : D := .ins "Script" ["kept"] [.lst (ds.map Dd.D)]
theorem w_deeds (ds : List Dd) (Q : List D → Zs → Prop) (X : Er → Zs → Prop) (z : Zs) (hq : Q (ds.map Dd.D) z) : m_Script_deeds [scD ds] Q X z := by
  rw [me_Script_deeds]
  simp [s_Script_deeds, lkp]
  exact hq
end LW

namespace LW
open PySem PySem.Spec PyProof.Rows L2 DL
def Ln.fin (L : Ln) (w : Str) : D := .tup [.lst (L.cs.map .int), .tup [.str w, prD (rr L.o L.b), prD (rr L.p L.b), .lst (mkD L.ms L.b)]]
def Ln.bad (L : Ln) (i : Nat) (y : D) : D := .tup [.lst (L.cs.map .int), .tup [.str "failed", .int i, y]]
inductive Res where
  | bad (r : D) | over (L : Ln) | done (L : Ln)
def Res.D : Res → D
  | .bad r => r
  | .over L => L.fin "over"
  | .done L => L.fin "done"
def Ln.isOver (L : Ln) : Dd → Bool
  | .rest => decide (L.room = 0)
  | _ => false
def Ln.go (L : Ln) : Nat → List Dd → Res
  | _, [] => .done L
  | i, d :: ds => match L.why d with
    | some y => .bad (L.bad i y)
    | none => if L.isOver d = true then .over (L.done d) else (L.done d).go (i + 1) ds
theorem done_cs (L : Ln) (d : Dd) : (L.done d).cs.length ≤ L.cs.length + 1 := by
  cases d <;> simp [Ln.done, Ln.mv]
theorem done_ms (L : Ln) (d : Dd) : (L.done d).ms.length ≤ L.ms.length + 1 := by
  cases d <;> simp only [Ln.done, Ln.mv] <;> try omega
  unfold putM
  split <;> simp
theorem w_state_end (L : Ln) (w : Str) (Q : D → Zs → Prop) (X : Er → Zs → Prop) (z : Zs) (hq : Q (L.fin w) z) : m_state_end [.str w, L.S] Q X z := by
  rw [me_state_end]
  simp [s_state_end, Ln.S]
  exact hq
/-- the state's loop; h0: how a deed is done -/
theorem wl_run (act : ∀ (L : Ln) (d : Dd), L.Ok → d.Ok → L.cs.length < 1000000 → L.ms.length < 1000000 → ∀ (Q : D → Zs → Prop) (X : Er → Zs → Prop) (z : Zs), (L.why d = none → Q (.tup [(L.done d).S, L.told d, .non]) z) → (∀ y, L.why d = some y → Q (.tup [L.S, .non, y]) z) → m_act_on [L.S, d.D] Q X z)
    (u v : Sl) (z : Zs) : ∀ (ds : List Dd) (i : Nat) (L : Ln) (t3 t4 t5 t6 : Sl) (Q : Fl → Rho → Zs → Prop) (X : Er → Rho → Zs → Prop), L.Ok → (∀ d ∈ ds, d.Ok) → L.cs.length + ds.length < 1000000 → L.ms.length + ds.length < 1000000 →
    (match L.go i ds with
      | .bad r => ∀ ρ, Q (.ret r) ρ z
      | .over L' => ∀ ρ, Q (.ret (L'.fin "over")) ρ z
      | .done L' => ∀ t3 t4 t5 t6, Q .nx [u, v, Sl.fr L'.S, t3, t4, t5, t6] z) →
    forL (gTp 2 (gCn (gN 3) (gCn (gN 4) gNl))) p0_run (enumD i (ds.map Dd.D)) [u, v, Sl.fr L.S, t3, t4, t5, t6] Q X z := by
  intro ds
  induction ds with
  | nil =>
    intro i L t3 t4 t5 t6 Q X ok hd hl hl2 h
    simp only [List.map_nil, enumD, forL_nil]
    exact h _ _ _ _
  | cons d ds ih =>
    intro i L t3 t4 t5 t6 Q X ok hd hl hl2 h
    simp only [List.map_cons, enumD, forL_cons]
    simp
    rw [p0_run]
    simp
    have d1 := hd d List.mem_cons_self
    simp only [List.length_cons] at hl hl2
    refine act L d ok d1 (by omega) (by omega) _ _ z (fun hw => ?_) (fun y hw => ?_)
    · have h : (match (if L.isOver d = true then Res.over (L.done d) else (L.done d).go (i + 1) ds) with
        | .bad r => ∀ ρ, Q (.ret r) ρ z
        | .over L' => ∀ ρ, Q (.ret (L'.fin "over")) ρ z
        | .done L' => ∀ t3 t4 t5 t6, Q .nx [u, v, Sl.fr L'.S, t3, t4, t5, t6] z) := by
        have e : L.go i (d :: ds) = (if L.isOver d = true then Res.over (L.done d) else (L.done d).go (i + 1) ds) := by
          show (match L.why d with | some y => Res.bad (L.bad i y) | none => _) = _
          rw [hw]
        rw [e] at h
        exact h
      have next : L.isOver d = false → ∀ t3 t4 t5 t6, forL (gTp 2 (gCn (gN 3) (gCn (gN 4) gNl))) p0_run (enumD (i + 1) (ds.map Dd.D)) [u, v, Sl.fr (L.done d).S, t3, t4, t5, t6] Q X z := fun ho t3 t4 t5 t6 => by
        rw [ho] at h
        exact ih (i + 1) (L.done d) t3 t4 t5 t6 Q X (ok.doneOk d1 hw) (fun e he => hd e (List.mem_cons_of_mem _ he)) (by have := done_cs L d; omega) (by have := done_ms L d; omega) h
      cases d
      all_goals
        simp [Ln.told, Dd.D]
      · exact next rfl _ _ _ _
      · exact next rfl _ _ _ _
      · exact next rfl _ _ _ _
      · exact next rfl _ _ _ _
      · refine ⟨fun k => ?_, fun k => next (by simp [Ln.isOver, k]) _ _ _ _⟩
        refine w_state_end _ _ _ _ z ?_
        simp only [Ln.isOver, k, decide_true, if_true] at h
        exact h _
      · exact next rfl _ _ _ _
      · exact next rfl _ _ _ _
      · exact next rfl _ _ _ _
      · exact next rfl _ _ _ _
      · exact next rfl _ _ _ _
    · have e : L.go i (d :: ds) = .bad (L.bad i y) := by
        show (match L.why d with | some y => Res.bad (L.bad i y) | none => _) = _
        rw [hw]
      rw [e] at h
      rcases why_of hw with ⟨s, rfl⟩ | ⟨a, rfl⟩
      · simp [Ln.S, unm]
        exact h _
      · simp [Ln.S, unm]
        exact h _
end LW

namespace LW
open PySem PySem.Spec PyProof.Rows L2 DL
theorem nm_strOk {a : Str} (h : nmOk a) : PyData.strOk a = true := by
  unfold PyData.strOk
  rw [← Array.all_toList, List.all_eq_true]
  intro c hc
  have := h.2.2 c hc
  simp
  omega
theorem neyW (L : Ln) (d : Dd) (hd : d.Ok) (y : D) (Q : Bool → Prop) (h : L.why d = some y) (q : Q false) : dEqG (.lst [y]) (.lst []) Q := by
  have hy : y = .str "beyond" ∨ y = .str "nothing" ∨ ∃ a, nmOk a ∧ y = unm a := by
    cases d <;> simp only [Ln.why] at h
    all_goals first | cases h; done | skip
    · split at h <;> cases h; exact .inr (.inl rfl)
    · split at h <;> cases h; exact .inl rfl
    · split at h <;> cases h; exact .inr (.inr ⟨_, hd, rfl⟩)
    · split at h
      · cases h; exact .inr (.inr ⟨_, hd.1, rfl⟩)
      · cases h; exact .inr (.inr ⟨_, hd.2, rfl⟩)
      · split at h <;> cases h; exact .inr (.inl rfl)
  rcases hy with rfl | rfl | ⟨a, ha, rfl⟩
  · simpa using q
  · simpa using q
  · rw [eq_lm a _ (nm_strOk ha)]; exact q
end LW

namespace LW
open PySem PySem.Spec PyProof.Rows L2 DL
theorem wh_ratio (u v : D) (n : Nat) : ∀ (a b : Int) (Q : Fl → Rho → Zs → Prop) (X : Er → Rho → Zs → Prop) (z : Zs), 0 ≤ a → 0 ≤ b → b < n → (Q .nx [Sl.fr u, Sl.fr v, Sl.no, Sl.fr (.int (Int.gcd a b)), Sl.fr (.int 0)] z) →
    whL p0__law_ds_ratio p1__law_ds_ratio n [Sl.fr u, Sl.fr v, Sl.no, Sl.fr (.int a), Sl.fr (.int b)] Q X z := by
  induction n with
  | zero => intro a b Q X z h1 h2 h3; omega
  | succ n ih =>
    intro a b Q X z h1 h2 h3 hQ
    rw [whL_succ]
    by_cases hb : b = 0
    · subst hb
      simp [p0__law_ds_ratio]
      rw [Int.gcd_zero_right] at hQ
      rwa [Int.natAbs_of_nonneg h1] at hQ
    · have := fmod_b a (b := b) (by omega)
      simp [p0__law_ds_ratio, p1__law_ds_ratio, hb]
      refine ih b (a.fmod b) Q X z h2 this.1 (by omega) ?_
      rw [gcd_step a b h1 (by omega)]
      exact hQ
theorem w__law_ds_ratio (a b : Int) (Q : D → Zs → Prop) (X : Er → Zs → Prop) (z : Zs) (hb : b.natAbs < 2 ^ 1000) (h0 : b ≠ 0) (h : Q (rat a b) z) : m__law_ds_ratio [.int a, .int b] Q X z := by
  rw [me__law_ds_ratio]
  simp [s__law_ds_ratio]
  rw [sWhile_a]
  refine ⟨(if b < 0 then -b else b).toNat + 1, wh_ratio _ _ _ _ _ _ _ _ (by split <;> omega) (by split <;> omega) (by split <;> omega) ?_⟩
  rw [gcd_abs]
  have hs := shr_ok (a := a) h0 hb
  unfold rat at h
  generalize hg : (Int.gcd a b : Int) = g
  have e : g * (1 - 2 * (if b < 0 then 1 else 0)) = shr a b := by
    unfold shr
    rw [hg]
    split <;> omega
  have m1 : MulC 2 (if b < 0 then 1 else 0) := mulC_l (by omega)
  have m2 : MulC g (1 - 2 * (if b < 0 then 1 else 0)) := mulC_r (by split <;> omega)
  simp only [eVar_0, eVar_s, ePk_0, ePk_s, fSeq_1, sSeq_a, sAsg_a, sRet_a, eb_a, eP_a, ep_a, dMul_1, dSub_1, dLt_1, dInt_2, decide_eq_true_eq, gN_a, List.set_cons_zero, List.set_cons_succ, eTup_a, dDiv_1, outF_2, e]
  exact ⟨m1, m2, hs, hs, by simp, h⟩
end LW

namespace LW
open PySem PySem.Spec PyProof.Rows L2 DL
/-- an opening -/
structure Op (p : Int × Int) : Prop where
  n1 : 1 ≤ p.1
  le : p.1 ≤ p.2
  d9 : p.2 ≤ 10 ^ 17
  g : Int.gcd p.1 p.2 = 1
theorem Op.bad {p : Int × Int} (h : Op p) : ¬ bad p := by
  have := h.n1
  have := h.le
  have := h.g
  unfold LW.bad
  omega
theorem w_is_opening (p : Int × Int) (h : Op p) (Q : D → Zs → Prop) (X : Er → Zs → Prop) (z : Zs) (hq : Q (.bl true) z) : m_is_opening [prD p] Q X z := by
  rw [me_is_opening]
  simp [s_is_opening, prD]
  refine w_is_fraction _ _ _ _ z (fun k => absurd k h.bad) fun _ => ?_
  have := h.n1
  have := h.le
  have k1 : (0 : Int) < p.1 := by omega
  have k2 : p.1 ≤ p.2 := by omega
  simp [k1, k2]
  exact hq
theorem w_checked_opening (p : Int × Int) (h : Op p) (Q : D → Zs → Prop) (X : Er → Zs → Prop) (z : Zs) (hq : Q (prD p) z) : m_checked_opening [prD p] Q X z := by
  rw [me_checked_opening]
  simp [s_checked_opening]
  refine w_is_opening p h _ _ z ?_
  simp
  exact hq
/-- the line at the beginning -/
def l0 (p : Int × Int) : Ln := ⟨p.1, 0, true, [], [], p.2⟩
theorem Op.ok {p : Int × Int} (h : Op p) : (l0 p).Ok := by
  have := h.n1
  have := h.le
  exact ⟨h.n1, h.le, Int.le_refl _, by show 0 ≤ p.2; omega, h.d9, (fun q hq => nomatch hq), List.nodup_nil⟩
theorem mkD_nil (b : Int) : mkD [] b = [] := by
  unfold mkD srt
  simp
theorem w_state_begun (p : Int × Int) (h : Op p) (Q : D → Zs → Prop) (X : Er → Zs → Prop) (z : Zs) (hq : Q (l0 p).S z) : m_state_begun [prD p] Q X z := by
  rw [me_state_begun]
  have h1 : 1 ≤ p.2 := by have := h.n1; have := h.le; omega
  have e : (l0 p).S = .tup [prD p, .tup [.int 0, .int 1], .bl true, .tup [], .tup []] := by
    show D.tup [prD (rr p.1 p.2), prD (rr 0 p.2), .bl true, .tup (mkD [] p.2), .tup []] = _
    rw [rr_self h1 h.g, rr_zero h1, mkD_nil]
    rfl
  rw [e] at hq
  simp [s_state_begun]
  exact hq
theorem w_run_of (act : ∀ (L : Ln) (d : Dd), L.Ok → d.Ok → L.cs.length < 1000000 → L.ms.length < 1000000 → ∀ (Q : D → Zs → Prop) (X : Er → Zs → Prop) (z : Zs), (L.why d = none → Q (.tup [(L.done d).S, L.told d, .non]) z) → (∀ y, L.why d = some y → Q (.tup [L.S, .non, y]) z) → m_act_on [L.S, d.D] Q X z)
    (ds : List Dd) (hd : ∀ d ∈ ds, d.Ok) (hl : ds.length < 1000000) (p : Int × Int) (h : Op p) (Q : D → Zs → Prop) (X : Er → Zs → Prop) (z : Zs) (hq : Q ((l0 p).go 0 ds).D z) : m_run [scD ds, prD p] Q X z := by
  rw [me_run]
  simp [s_run]
  refine w_checked_opening p h _ _ z ?_
  refine w_state_begun p h _ _ z ?_
  refine w_deeds ds _ _ z ?_
  refine wl_run act _ _ z ds 0 (l0 p) _ _ _ _ _ _ h.ok hd (by show 0 + ds.length < 1000000; omega) (by show 0 + ds.length < 1000000; omega) ?_
  cases e : (l0 p).go 0 ds with
  | bad r => rw [e] at hq; intro ρ; simp; exact hq
  | over L' => rw [e] at hq; intro ρ; simp; exact hq
  | done L' =>
    rw [e] at hq
    intro t3 t4 t5 t6
    simp
    refine w_state_end _ _ _ _ z ?_
    exact hq
/-- what stood there stands there -/
def Old (z z' : Zs) : Prop := z'.n = z.n ∧ ∀ (i : Nat) c, z.cs[i]? = some c → z'.cs[i]? = some c
theorem LnAt.old {z z' : Zs} {k j : Nat} {L : Ln} (h : LnAt z k j L) (o : Old z z') : LnAt z' k j L := ⟨h.ne, o.2 _ _ h.hk, o.2 _ _ h.hj⟩
theorem Old.trans {a b c : Zs} (h : Old a b) (g : Old b c) : Old a c := ⟨g.1.trans h.1, fun i x e => g.2 i x (h.2 i x e)⟩
theorem w_begun2 (a b : Int) (Q : D → Zs → Prop) (X : Er → Zs → Prop) (z : Zs) (h : ∀ (z' : Zs) (k j : Nat), LnAt z' k j ⟨a, 0, true, [], [], b⟩ → z.cs.length ≤ k → z.cs.length ≤ j → Old z z' → Q (.mc k) z') : m__law_ds_begun [prD (a, b)] Q X z := by
  rw [me__law_ds_begun]
  simp [s__law_ds_begun, prD]
  refine h _ _ z.cs.length ⟨by omega, ?_, ?_⟩ (by omega) (by omega) ⟨rfl, fun i c hi => ?_⟩
  · show (z.cs ++ [MC.dic [] [], MC.lst _])[z.cs.length + 1]? = _
    rw [List.getElem?_append_right (by omega)]
    simp
  · show (z.cs ++ [MC.dic [] [], MC.lst _])[z.cs.length]? = _
    rw [List.getElem?_append_right (by omega)]
    simp
  · show (z.cs ++ [MC.dic [] [], MC.lst _])[i]? = _
    rw [List.getElem?_append_left (List.getElem?_eq_some_iff.mp hi).1]
    exact hi
theorem Oth.old {z z1 z2 : Zs} {k j : Nat} (o : Old z z1) (hk : z.cs.length ≤ k) (hj : z.cs.length ≤ j) (h : Oth z1 z2 k j) : Old z z2 := ⟨h.n.trans o.1, fun i c e => by
  have := (List.getElem?_eq_some_iff.mp e).1
  rw [h.ke i (by omega) (by omega)]
  exact o.2 i c e⟩
end LW

namespace LW
open PySem PySem.Spec PyProof.Rows L2 DL
theorem lc_filt {α : Type} (k : Nat) (ρ0 : Rho) (g f : α → D) (p : α → Bool) (hw : ∀ d, wipeR (ρ0.set k (.fr d)) [k] = ρ0) (mt : E Bool) (body : E D) (z : Zs) : ∀ (xs : List α) (acc : List D) (Q : List D → Rho → Zs → Prop) (X : Er → Rho → Zs → Prop),
    (∀ x ∈ xs, ∀ Q' : Bool → Rho → Zs → Prop, Q' (p x) (ρ0.set k (.fr (g x))) z → mt (ρ0.set k (.fr (g x))) Q' (fun _ _ _ => False) z) →
    (∀ x ∈ xs, ∀ Q' : D → Rho → Zs → Prop, Q' (f x) (ρ0.set k (.fr (g x))) z → body (ρ0.set k (.fr (g x))) Q' (fun _ _ _ => False) z) → acc.length + xs.length ≤ 16777216 → Q (acc ++ (xs.filter p).map f) ρ0 z → lcL [k] (gN k) mt body (xs.map g) acc ρ0 Q X z := by
  intro xs
  induction xs with
  | nil => intro acc Q X _ _ _ h; simpa using h
  | cons x xs ih =>
    intro acc Q X hm hb hl h
    simp only [List.map_cons, List.length_cons] at hl h ⊢
    rw [lcL_cons]
    simp
    refine hm x (List.mem_cons_self ..) _ ?_
    have ih' := fun acc => ih acc Q X (fun y hy => hm y (List.mem_cons_of_mem _ hy)) (fun y hy => hb y (List.mem_cons_of_mem _ hy))
    cases e : p x with
    | true =>
      simp only [if_true]
      refine hb x (List.mem_cons_self ..) _ ⟨by omega, ?_⟩
      rw [hw]
      exact ih' _ (by simp; omega) (by simpa [List.filter_cons, e] using h)
    | false =>
      simp only [Bool.false_eq_true, if_false]
      rw [hw]
      exact ih' _ (by omega) (by simpa [List.filter_cons, e] using h)
end LW

namespace LW
open PySem PySem.Spec PyProof.Rows L2 DL
theorem okSL_map {α : Type} (f : α → D) (c b : Nat) : ∀ l : List α, (∀ x ∈ l, (f x).okS ∧ (f x).dep ≤ c ∧ (f x).blk ≤ b) → okSL (l.map f) ∧ depL (l.map f) ≤ c ∧ blkL (l.map f) ≤ (b + 1) * l.length := by
  intro l
  induction l with
  | nil => intro _; exact ⟨trivial, by simp [depL], by simp [blkL]⟩
  | cons x r ih =>
    intro h
    obtain ⟨h1, h2, h3⟩ := ih fun y hy => h y (List.mem_cons_of_mem _ hy)
    obtain ⟨k1, k2, k3⟩ := h x List.mem_cons_self
    refine ⟨⟨k1, h1⟩, ?_, ?_⟩
    · simp only [List.map_cons, depL]; omega
    · simp only [List.map_cons, blkL, List.length_cons, Nat.mul_add, Nat.mul_one]; omega
def Ln.Fine (L : Ln) : Prop := (∀ x ∈ L.cs, 0 ≤ x ∧ x ≤ 99) ∧ ∀ q ∈ L.ms, nmOk q.1
theorem done_fine {L : Ln} (ok : L.Ok) (h : L.Fine) {d : Dd} (hd : d.Ok) : (L.done d).Fine := by
  cases d with
  | fill n =>
    obtain ⟨c0, c1, c2⟩ := ok.cntOk (n := n) (by have := hd.1; omega)
    refine ⟨fun x hx => ?_, h.2⟩
    rcases List.mem_append.mp hx with h1 | h1
    · exact h.1 x h1
    · have := hd.2
      rw [List.mem_singleton.mp h1]; omega
  | mark a =>
    refine ⟨h.1, fun q hq => ?_⟩
    have hq : q ∈ putM L.ms a L.p := hq
    unfold putM at hq
    split at hq
    · obtain ⟨q', h1, h2⟩ := List.mem_map.mp hq
      split at h2
      · rw [← h2]; exact h.2 q' h1
      · rw [← h2]; exact h.2 q' h1
    · rcases List.mem_append.mp hq with h1 | h1
      · exact h.2 q h1
      · rw [List.mem_singleton.mp h1]; exact hd
  | _ => exact h
theorem cs_ok {L : Ln} (h : L.Fine) : okSL (L.cs.map .int) ∧ depL (L.cs.map .int) ≤ 0 ∧ blkL (L.cs.map .int) ≤ (0 + 1) * L.cs.length := okSL_map .int 0 0 L.cs fun x hx => by
  have := h.1 x hx
  exact ⟨by show x.natAbs < 2 ^ 200; omega, by simp [D.dep], by simp [D.blk]⟩
theorem nm_okS {a : Str} (h : nmOk a) : (D.str a).okS ∧ (D.str a).blk ≤ 8 := by
  refine ⟨fun c hc => ?_, ?_⟩
  · have := h.2.2 c hc; omega
  · have := h.2.1
    simpa [D.blk] using this
end LW

namespace LW
open PySem PySem.Spec PyProof.Rows L2 DL
theorem dlk_lkm (a : Str) : ∀ ms : List (Str × Int), dlk (ms.map fun q => Sum.inr q.1) (ms.map fun q => D.int q.2) (.inr a) = (lkm ms a).map .int := by
  intro ms
  unfold lkm
  induction ms with
  | nil => rfl
  | cons q r ih =>
    simp only [List.map_cons, dlk, List.lookup_cons]
    by_cases e : q.1 = a
    · rw [if_pos (by rw [e])]
      have : (a == q.1) = true := by simp [e]
      rw [List.lookup_cons, this]; rfl
    · rw [if_neg (by intro k; cases k; exact e rfl)]
      have : (a == q.1) = false := by simp; intro k; exact e k.symm
      rw [List.lookup_cons, this]; exact ih
theorem lkm_of {a : Str} {v : Int} : ∀ {ms : List (Str × Int)}, (ms.map (·.1)).Nodup → (a, v) ∈ ms → lkm ms a = some v := by
  intro ms
  unfold lkm
  induction ms with
  | nil => intro _ h; cases h
  | cons q r ih =>
    intro nd h
    simp only [List.map_cons, List.nodup_cons] at nd
    rw [List.lookup_cons]
    rcases List.mem_cons.mp h with h1 | h1
    · subst h1; simp
    · have : (a == q.1) = false := by
        simp
        intro k
        exact nd.1 (by rw [← k]; exact List.mem_map.mpr ⟨_, h1, rfl⟩)
      rw [this]
      exact ih nd.2 h1
end LW

namespace LW
open PySem PySem.Spec PyProof.Rows L2 DL
theorem str_ext {a b : Str} (h : a.cps.toList = b.cps.toList) : a = b := by
  cases a; cases b
  simp only at h
  congr
  exact Array.toList_inj.mp h
theorem sle_trans (a b c : Str × Int) : sle a b = true → sle b c = true → sle a c = true := by
  unfold sle
  simp only [decide_eq_true_eq]
  exact fun h1 h2 => List.le_trans h1 h2
theorem sle_total (a b : Str × Int) : (sle a b || sle b a) = true := by
  unfold sle
  simp only [Bool.or_eq_true, decide_eq_true_eq]
  exact List.le_total ..
theorem nd_eq {l : List (Str × Int)} (h : (l.map (·.1)).Nodup) {a b : Str × Int} (ha : a ∈ l) (hb : b ∈ l) (e : a.1 = b.1) : a = b := by
  have h1 := lkm_of h (a := a.1) (v := a.2) ha
  have h2 := lkm_of h (a := a.1) (v := b.2) (by rw [e]; exact hb)
  have : a.2 = b.2 := by rw [h1] at h2; exact Option.some.inj h2
  exact Prod.ext e this
theorem srt_perm {l m : List (Str × Int)} (h : l.Perm m) (nd : (l.map (·.1)).Nodup) : srt l = srt m := by
  have p1 : (srt l).Perm l := List.mergeSort_perm ..
  have p2 : (srt m).Perm m := List.mergeSort_perm ..
  refine List.Perm.eq_of_pairwise (le := fun a b => sle a b = true) (fun a b ha hb h1 h2 => ?_) (List.pairwise_mergeSort (fun a b c => sle_trans a b c) (fun a b => sle_total a b) l) (List.pairwise_mergeSort (fun a b c => sle_trans a b c) (fun a b => sle_total a b) m) ((p1.trans h).trans p2.symm)
  unfold sle at h1 h2
  simp only [decide_eq_true_eq] at h1 h2
  exact nd_eq nd (p1.subset ha) (h.symm.subset (p2.subset hb)) (str_ext (List.le_antisymm h1 h2))
theorem srt_nd {l : List (Str × Int)} (nd : (l.map (·.1)).Nodup) : ((srt l).map (·.1)).Nodup := (((List.mergeSort_perm l sle).map (·.1)).nodup_iff).mpr nd
theorem lkm_srt {l : List (Str × Int)} (nd : (l.map (·.1)).Nodup) (a : Str) : lkm (srt l) a = lkm l a := by
  cases h : lkm l a with
  | some v => exact lkm_of (srt_nd nd) (List.mem_mergeSort.mpr (lkm_mem h))
  | none =>
    cases h2 : lkm (srt l) a with
    | none => rfl
    | some v =>
      have := lkm_of nd (List.mem_mergeSort.mp (lkm_mem h2))
      rw [h] at this; cases this
theorem putM_perm (a : Str) (p : Int) : ∀ ms : List (Str × Int), (ms.map (·.1)).Nodup → (putM ms a p).Perm (ms.filter (fun q => !decide (q.1 = a)) ++ [(a, p)]) := by
  intro ms nd
  unfold putM
  split
  · rename_i h
    induction ms with
    | nil => cases h
    | cons q r ih =>
      simp only [List.map_cons, List.nodup_cons] at nd
      by_cases e : q.1 = a
      · have no : ∀ x ∈ r, ¬ x.1 = a := fun x hx k => nd.1 (by rw [e, ← k]; exact List.mem_map.mpr ⟨x, hx, rfl⟩)
        have m : r.map (fun q => if q.1 = a then (q.1, p) else q) = r := by
          have : r.map (fun q => if q.1 = a then (q.1, p) else q) = r.map id := List.map_congr_left fun x hx => by simp [no x hx]
          rw [this]; simp
        have f : r.filter (fun q => !decide (q.1 = a)) = r := List.filter_eq_self.mpr fun x hx => by simp [no x hx]
        simp only [List.map_cons, e, if_true, m, List.filter_cons, decide_true, Bool.not_true, Bool.false_eq_true, if_false, f]
        exact (List.perm_append_singleton _ _).symm
      · have h' : (r.any fun q => decide (q.1 = a)) = true := by simpa [e] using h
        simp only [List.map_cons, e, if_false, List.filter_cons, decide_false, Bool.not_false, if_true, List.cons_append]
        exact (ih nd.2 h').cons _
  · rename_i h
    have f : ms.filter (fun q => !decide (q.1 = a)) = ms := List.filter_eq_self.mpr fun x hx => by
      have : ¬ x.1 = a := fun k => h (List.any_eq_true.mpr ⟨x, hx, by simp [k]⟩)
      simp [this]
    rw [f]
theorem filt_nd (a : Str) {ms : List (Str × Int)} (nd : (ms.map (·.1)).Nodup) (p : Int) : ((ms.filter (fun q => !decide (q.1 = a)) ++ [(a, p)]).map (·.1)).Nodup := by
  rw [List.map_append, List.nodup_append]
  refine ⟨nd.sublist ((List.filter_sublist ..).map _), by simp, fun x hx y hy => ?_⟩
  simp at hy
  obtain ⟨q, hq, rfl⟩ := List.mem_map.mp hx
  have := (List.mem_filter.mp hq).2
  intro k
  simp [k, hy] at this
/-- a mark as a pair -/
abbrev mkF (b : Int) (q : Str × Int) : D := .tup [.str q.1, prD (rr q.2 b)]
theorem dle_mk (b : Int) {l : List (Str × Int)} (nd : (l.map (·.1)).Nodup) {x y : Str × Int} (hx : x ∈ l) (hy : y ∈ l) : sle x y = dle (mkF b x) (mkF b y) := by
  have al : PySem.W.alike (D.py (prD (rr y.2 b))) (D.py (prD (rr x.2 b))) = true := by simp [prD, D.py, pyL, PySem.W.alike, PySem.W.alikeAll]
  have e : dle (mkF b x) (mkF b y) = !PySem.W.dataLt (.tuple [.str y.1, D.py (prD (rr y.2 b))]) (.tuple [.str x.1, D.py (prD (rr x.2 b))]) := rfl
  rw [e, PySem.W.dataLt_pair (by simp [PySem.W.alike]) al]
  by_cases k : x.1 = y.1
  · have := nd_eq nd hx hy k
    subst this
    have e1 : PyData.eqv (.str x.1) (.str x.1) = true := by simp [PyData.eqv]
    have e2 : PyData.eqv (D.py (prD (rr x.2 b))) (D.py (prD (rr x.2 b))) = true := by simp [prD, D.py, pyL, PyData.eqv, PyData.eqvAll]
    simp only [e1, e2, if_true, Bool.not_false]
    unfold sle
    simp only [decide_eq_true_eq]
    exact List.le_refl _
  · have e1 : PyData.eqv (.str y.1) (.str x.1) = false := by simp [PyData.eqv]; exact fun q => k q.symm
    simp only [e1, Bool.false_eq_true, if_false]
    rw [PySem.W.dataLt_str, PySem.W.not_lt_str]
    rfl
theorem sort_mk (b : Int) {l : List (Str × Int)} (nd : (l.map (·.1)).Nodup) : (l.map (mkF b)).mergeSort dle = (srt l).map (mkF b) :=
  (List.map_mergeSort (r := sle) (s := dle) (f := mkF b) fun _ hx _ hy => dle_mk b nd hx hy).symm
theorem mk_sort (b : Int) (l : List (Str × Int)) : isPyL (l.map (mkF b)) = true ∧ PySem.W.AllAlike (pyL (l.map (mkF b))) ∧ PySem.W.Sortable (pyL (l.map (mkF b))) ∧ ∀ d ∈ pyL (l.map (mkF b)), d.depth ≤ 60 := by
  have m : ∀ d ∈ pyL (l.map (mkF b)), ∃ s x y, d = .tuple [.str s, .tuple [.int x, .int y]] := by
    induction l with
    | nil => intro d h; cases h
    | cons a r ih =>
      intro d h
      rcases List.mem_cons.mp h with rfl | h1
      · exact ⟨a.1, _, _, rfl⟩
      · exact ih d h1
  have p : isPyL (l.map (mkF b)) = true := by
    clear m
    induction l with
    | nil => rfl
    | cons a r ih => simp [isPyL, D.isPy, ih, prD]
  refine ⟨p, fun d h d' h' => ?_, .inl fun d h => ?_, fun d h => ?_⟩
  · obtain ⟨s, x, y, rfl⟩ := m d h
    obtain ⟨s', x', y', rfl⟩ := m d' h'
    simp [PySem.W.alike, PySem.W.alikeAll]
  · obtain ⟨s, x, y, rfl⟩ := m d h
    exact ⟨_, _, rfl⟩
  · obtain ⟨s, x, y, rfl⟩ := m d h
    simp [PyData.depth, PyData.depthAll]
theorem dput_put (a : Str) (p : Int) (ms : List (Str × Int)) : dputL (ms.map fun q => Sum.inr q.1) (ms.map fun q => D.int q.2) (.inr a) (.int p) = ((putM ms a p).map fun q => Sum.inr q.1, (putM ms a p).map fun q => D.int q.2) := by
  have an : ((ms.map fun q => (Sum.inr q.1 : Key)).any fun j => decide (j = .inr a)) = ms.any fun q => decide (q.1 = a) := by
    rw [List.any_map]
    congr 1
    funext q
    simp
  unfold dputL putM
  rw [an]
  by_cases h : (ms.any fun q => decide (q.1 = a)) = true
  · rw [if_pos h, if_pos h]
    congr 1
    · rw [List.map_map]
      apply List.map_congr_left
      intro q _
      simp only [Function.comp]
      split <;> rfl
    · clear h an
      induction ms with
      | nil => rfl
      | cons q r ih =>
        simp only [List.map_cons, List.zipWith_cons_cons, ih]
        congr 1
        by_cases e : q.1 = a
        · simp [e]
        · simp [e]
  · rw [if_neg h, if_neg h]
    simp
end LW

namespace LW
open PySem PySem.Spec PyProof.Rows L2 DL
/-! the program's deeds with marks -/
theorem wl_place (s0 : Sl) (a : Str) (b : Int) (z : Zs) : ∀ (qs : List (Str × Int)) (t2 t3 : Sl) (Q : Fl → Rho → Zs → Prop) (X : Er → Rho → Zs → Prop),
    (match lkm qs a with
      | some v => ∀ ρ, Q (.ret (prD (rr v b))) ρ z
      | none => ∀ t2 t3, Q .nx [s0, Sl.fr (.str a), t2, t3] z) →
    forL (gTp 2 (gCn (gN 2) (gCn (gN 3) gNl))) p0_place_of (qs.map (mkF b)) [s0, Sl.fr (.str a), t2, t3] Q X z := by
  intro qs
  induction qs with
  | nil => intro t2 t3 Q X h; exact h t2 t3
  | cons q r ih =>
    intro t2 t3 Q X h
    simp only [List.map_cons, forL_cons]
    simp
    rw [p0_place_of]
    simp
    unfold lkm at h
    rw [List.lookup_cons] at h
    refine ⟨fun e => ?_, fun e => ?_⟩
    · have : (a == q.1) = true := by simp [e]
      rw [this] at h
      exact h _
    · have : (a == q.1) = false := by simp; exact fun k => e k.symm
      rw [this] at h
      exact ih _ _ Q X h
theorem w_place_of (L : Ln) (ok : L.Ok) (a : Str) (Q : D → Zs → Prop) (X : Er → Zs → Prop) (z : Zs) (h0 : lkm L.ms a = none → Q .non z) (h1 : ∀ v, lkm L.ms a = some v → Q (prD (rr v L.b)) z) : m_place_of [L.S, .str a] Q X z := by
  rw [me_place_of]
  simp [s_place_of, Ln.S]
  refine wl_place _ a L.b z (srt L.ms) _ _ _ _ ?_
  rw [lkm_srt ok.nd]
  cases e : lkm L.ms a with
  | some v => intro ρ; simp; exact h1 v e
  | none => intro t2 t3; simp; exact h0 e
theorem w_distance (m n b : Int) (h0 : 0 ≤ m) (h1 : 0 ≤ n) (hm : m ≤ b) (hn : n ≤ b) (hb : 1 ≤ b) (b9 : b ≤ 10 ^ 17) (Q : D → Zs → Prop) (X : Er → Zs → Prop) (z : Zs) (hq : Q (prD (rr (dist m n) b)) z) : m_distance [prD (rr m b), prD (rr n b)] Q X z := by
  rw [me_distance]
  have e := rr_dist h0 h1 hb
  unfold dist at hq
  rw [← e] at hq
  have A := rr_fr h0 hb hm (Int.le_refl b)
  have B := rr_fr h1 hb hn (Int.le_refl b)
  generalize rr m b = p at *
  generalize rr n b = q at *
  have a0 := A.n0
  have a1 := A.n9
  have a2 := A.d1
  have a3 := A.d9
  have b0 := B.n0
  have b1 := B.n9
  have b2 := B.d1
  have b3 := B.d9
  have m1 : MulC p.1 q.2 := mulC_l (by omega)
  have m2 : MulC q.1 p.2 := mulC_l (by omega)
  have m3 : MulC p.2 q.2 := mulC_l (by omega)
  have pos : 0 < p.2 * q.2 := Int.mul_pos (by omega) (by omega)
  have le : p.2 * q.2 ≤ 10 ^ 17 * 10 ^ 17 := Int.mul_le_mul (by omega) (by omega) (by omega) (by omega)
  simp [s_distance, prD, m1, m2, m3]
  refine w_fraction _ _ _ _ z (by omega) (fun k => by omega) fun _ => ?_
  rw [rat_rr]
  exact hq
theorem w_state_spanned (L : Ln) (h : L.Ok) (a c : Str) (Q : D → Zs → Prop) (X : Er → Zs → Prop) (z : Zs) (h0 : L.why (.span a c) = none → Q (.tup [(L.done (.span a c)).S, .non, .non]) z) (h1 : ∀ y, L.why (.span a c) = some y → Q (.tup [L.S, .non, y]) z) :
    m_state_spanned [L.S, (Dd.span a c).D] Q X z := by
  rw [me_state_spanned]
  have c3 : ∀ x y w : D, DL.cutD [x, y, w] (some 1) none = [y, w] := fun _ _ _ => rfl
  simp [s_state_spanned, Dd.D, c3]
  simp only [forL_cons, forL_nil]
  simp
  rw [p0_state_spanned]
  simp
  refine w_place_of L h a _ _ z (fun e => ?_) fun m e => ?_
  · simp
    exact h1 (unm a) (by simp [Ln.why, e])
  have em := h.m0 _ (lkm_mem e)
  simp [prD]
  simp only [forL_cons, forL_nil]
  simp
  rw [p0_state_spanned]
  simp
  refine w_place_of L h c _ _ z (fun e2 => ?_) fun n e2 => ?_
  · simp
    exact h1 (unm c) (by simp [Ln.why, e, e2])
  have en := h.m0 _ (lkm_mem e2)
  simp [prD]
  refine w_place_of L h a _ _ z (fun k => by rw [e] at k; cases k) fun m' e' => ?_
  rw [e] at e'; cases e'
  refine w_place_of L h c _ _ z (fun k => by rw [e2] at k; cases k) fun n' e' => ?_
  rw [e2] at e'; cases e'
  refine w_distance m n L.b em.1 en.1 em.2 en.2 h.b1 h.b9 _ _ z ?_
  refine w_state_set L _ h (by unfold dist; split <;> omega) _ _ z (fun k => ?_) fun k => ?_
  · have : m = n := by unfold dist at k; split at k <;> omega
    exact h1 _ (by simp [Ln.why, e, e2, this])
  · have : ¬ m = n := by intro q; apply k; unfold dist; split <;> omega
    have := h0 (by simp [Ln.why, e, e2, this])
    simpa [Ln.done, e, e2] using this
theorem w_state_marked (L : Ln) (h : L.Ok) (a : Str) (hl : L.ms.length ≤ 1000000) (Q : D → Zs → Prop) (X : Er → Zs → Prop) (z : Zs) (hq : Q (L.done (.mark a)).S z) : m_state_marked [L.S, .str a] Q X z := by
  rw [me_state_marked]
  simp [s_state_marked, Ln.S]
  simp only [wipeR, List.set_cons_zero, List.set_cons_succ]
  have sl : (srt L.ms).length = L.ms.length := List.length_mergeSort ..
  refine lc_filt 8 _ (mkF L.b) (mkF L.b) (fun q => !decide (q.1 = a)) (fun d => rfl) _ _ z (srt L.ms) [] _ _ (fun q hq Q' h' => ?_) (fun q hq Q' h' => ?_) (by simp [sl]; omega) ?_
  · rw [p1_state_marked]
    simpa using h'
  · rw [p0_state_marked]
    simpa using h'
  have en : ∀ x : D, (srt L.ms).filter (fun q => !decide (q.1 = a)) = (srt L.ms).filter (fun q => !decide (q.1 = a)) := fun _ => rfl
  have nd1 := filt_nd a (srt_nd h.nd) L.p
  have ew : (((srt L.ms).filter fun q => !decide (q.1 = a)).map (mkF L.b)) ++ [mkF L.b (a, L.p)] = ((srt L.ms).filter (fun q => !decide (q.1 = a)) ++ [(a, L.p)]).map (mkF L.b) := by rw [List.map_append]; rfl
  have em : ((((srt L.ms).filter fun q => !decide (q.1 = a)).map (mkF L.b)) ++ [mkF L.b (a, L.p)]).mergeSort dle = mkD (putM L.ms a L.p) L.b := by
    rw [ew, sort_mk L.b nd1]
    show _ = (srt (putM L.ms a L.p)).map (mkF L.b)
    congr 1
    refine (srt_perm ?_ ?_).symm
    · exact (putM_perm a L.p L.ms h.nd).trans (((List.mergeSort_perm L.ms sle).symm.filter _).append_right _)
    · exact ((putM_perm a L.p L.ms h.nd).map (·.1)).nodup_iff.mpr (filt_nd a h.nd L.p)
  have fl : ((srt L.ms).filter fun q => !decide (q.1 = a)).length ≤ L.ms.length := by rw [← sl]; exact List.length_filter_le ..
  obtain ⟨k1, k2, k3, k4⟩ := mk_sort L.b ((srt L.ms).filter (fun q => !decide (q.1 = a)) ++ [(a, L.p)])
  rw [← ew] at k1 k2 k3 k4
  simp
  refine ⟨by omega, ⟨k1, k2, k3, k4, by omega⟩, ?_⟩
  rw [em]
  exact hq
/-- a deed -/
theorem w_act (L : Ln) (h : L.Ok) (d : Dd) (hd : d.Ok) (hc : L.cs.length < 1000000) (hm : L.ms.length < 1000000) (Q : D → Zs → Prop) (X : Er → Zs → Prop) (z : Zs) (h0 : L.why d = none → Q (.tup [(L.done d).S, L.told d, .non]) z) (h1 : ∀ y, L.why d = some y → Q (.tup [L.S, .non, y]) z) :
    m_act_on [L.S, d.D] Q X z := by
  by_cases hb : d.bare = true
  · exact w_act_bare L h d hd hb hc Q X z h0 h1
  rw [me_act_on]
  cases d <;> first | (exact absurd rfl hb) | skip
  · rename_i a
    simp [s_act_on, Dd.D]
    rw [me_act_on_marks]
    simp [s_act_on_marks]
    refine w_state_marked L h a (by omega) _ _ z ?_
    exact h0 rfl
  · rename_i a
    simp [s_act_on, Dd.D]
    rw [me_act_on_marks]
    simp [s_act_on_marks]
    refine w_place_of L h a _ _ z (fun e => ?_) fun m e => ?_
    · simp
      exact h1 (unm a) (by simp [Ln.why, e])
    · have := h0 (by simp [Ln.why, e])
      simp [prD, Ln.S]
      simpa [Ln.S, Ln.done, Ln.told, prD, e] using this
  · rename_i a c
    simp [s_act_on, Dd.D]
    rw [me_act_on_marks]
    simp [s_act_on_marks]
    exact w_state_spanned L h a c _ _ z h0 h1
end LW

namespace LW
open PySem PySem.Spec PyProof.Rows L2 DL
theorem lk_of {L : Ln} {a : Str} {o : Option Int} (h : lkm L.ms a = o) : dlk (lnK L) (lnV L) (.inr a) = o.map .int := by rw [dlk_lkm, h]
theorem w_why {z : Zs} {k j : Nat} {L : Ln} (h : LnAt z k j L) (ok : L.Ok) (d : Dd) (hd : d.Ok) (Q : List D → Zs → Prop) (X : Er → Zs → Prop) (hq : Q (L.why d).toList z) : m__law_ds_why [.mc k, d.D] Q X z := by
  by_cases hb : d.bare = true
  · exact w_why_bare h ok d hd hb Q X hq
  have c2 : ∀ x y : D, DL.cutD [x, y] (some 1) none = [y] := fun _ _ => rfl
  have c3 : ∀ x y w : D, DL.cutD [x, y, w] (some 1) none = [y, w] := fun _ _ _ => rfl
  rw [me__law_ds_why]
  cases d <;> first | (exact absurd rfl hb) | skip
  · rename_i a
    simp [s__law_ds_why, Dd.D]
    refine w__law_ds_room h _ _ ?_
    exact hq
  · rename_i a
    simp [s__law_ds_why, Dd.D, c2]
    refine w__law_ds_room h _ _ ?_
    simp only [forL_cons, forL_nil]
    simp
    rw [p0__law_ds_why]
    cases e : lkm L.ms a with
    | none =>
      simp [h.drk, h.drj, lk_of e, c2]
      simpa [Ln.why, e, unm] using hq
    | some m =>
      simp [h.drk, h.drj, lk_of e, c2]
      simpa [Ln.why, e, unm] using hq
  · rename_i a c
    simp [s__law_ds_why, Dd.D, c3]
    refine w__law_ds_room h _ _ ?_
    simp only [forL_cons, forL_nil]
    simp
    rw [p0__law_ds_why]
    cases e : lkm L.ms a with
    | none =>
      simp [h.drk, h.drj, lk_of e, c3]
      simpa [Ln.why, e, unm] using hq
    | some m =>
      simp [h.drk, h.drj, lk_of e, c3]
      simp only [forL_cons, forL_nil]
      simp
      rw [p0__law_ds_why]
      cases e2 : lkm L.ms c with
      | none =>
        simp [h.drk, h.drj, lk_of e2, c3]
        simpa [Ln.why, e, e2, unm] using hq
      | some n =>
        simp [h.drk, h.drj, lk_of e2, c3]
        simp [h.drk, h.drj, lk_of e, lk_of e2]
        refine ⟨fun q => ?_, fun q => ?_⟩
        · simpa [Ln.why, e, e2, q] using hq
        · simpa [Ln.why, e, e2, q] using hq
/-- the line's marks change -/
theorem LnAt.setj {z : Zs} {k j : Nat} {L L' : Ln} (h : LnAt z k j L) (e1 : L'.o = L.o) (e2 : L'.p = L.p) (e3 : L'.r = L.r) (e4 : L'.cs = L.cs) (e5 : L'.b = L.b) : LnAt { z with cs := z.cs.set j (.dic (lnK L') (lnV L')) } k j L' ∧ Oth z { z with cs := z.cs.set j (.dic (lnK L') (lnV L')) } k j := by
  refine ⟨⟨h.ne, ?_, cs_set h.hj⟩, ⟨rfl, by simp, fun i _ h1 => ?_⟩⟩
  · show (z.cs.set j _)[k]? = _
    rw [List.getElem?_set_ne h.ne, h.hk]
    unfold lnL
    rw [e1, e2, e3, e4, e5]
  · show (z.cs.set j _)[i]? = _
    rw [List.getElem?_set_ne (Ne.symm h1)]
theorem w_done {z : Zs} {k j : Nat} {L : Ln} (h : LnAt z k j L) (ok : L.Ok) (d : Dd) (hd : d.Ok) (hw : L.why d = none) (hc : L.cs.length < 1000000) (hm : L.ms.length < 1000000) (Q : D → Zs → Prop) (X : Er → Zs → Prop) (hq : ∀ z', LnAt z' k j (L.done d) → Oth z z' k j → Q (L.told d) z') : m__law_ds_done [.mc k, d.D] Q X z := by
  by_cases hb : d.bare = true
  · exact w_done_bare h ok d hd hb hw hc Q X hq
  rw [me__law_ds_done]
  have hk := h.hk
  have hj := h.hj
  cases d <;> first | (exact absurd rfl hb) | skip
  · rename_i a
    simp [s__law_ds_done, Dd.D]
    refine w__law_ds_room h _ _ ?_
    simp [h.drk, hj]
    refine ⟨_, _, ⟨rfl, rfl⟩, _, rfl, by simp; omega, ?_⟩
    have ed := dput_put a L.p L.ms
    unfold lnK lnV
    rw [ed]
    have g := h.setj (L' := L.done (.mark a)) rfl rfl rfl rfl rfl
    exact hq _ g.1 g.2
  · rename_i a
    simp [s__law_ds_done, Dd.D]
    refine w__law_ds_room h _ _ ?_
    cases e : lkm L.ms a with
    | none => simp [Ln.why, e] at hw
    | some m =>
      simp [h.drk, h.drj, hk, lk_of e]
      have g := fin_line (L' := L.done (.go a)) h rfl hq
      simpa [Ln.done, e, lnL, Ln.told] using g
  · rename_i a c
    simp [s__law_ds_done, Dd.D]
    refine w__law_ds_room h _ _ ?_
    cases e : lkm L.ms a with
    | none => simp [Ln.why, e] at hw
    | some m =>
      cases e2 : lkm L.ms c with
      | none => simp [Ln.why, e, e2] at hw
      | some n =>
        simp [h.drk, h.drj, hk, lk_of e, lk_of e2]
        have g := fin_line (L' := L.done (.span a c)) h rfl hq
        simpa [Ln.done, e, e2, lnL, dist, Ln.told] using g
end LW

namespace LW
open PySem PySem.Spec PyProof.Rows L2 DL
theorem dLen_s (a : Str) (Q : D → Prop) : dLen (.str a) Q = (a.length ≤ 16777216 ∧ Q (.int a.length)) := propext Iff.rfl
theorem let_in : ∀ i : Fin 26, (!(Builtin.Str.occurrences ("abcdefghijklmnopqrstuvwxyz" : Str) (⟨#[97 + i.val]⟩ : Str) 0 ("abcdefghijklmnopqrstuvwxyz" : Str).length 1).isEmpty) = true := by decide +kernel
theorem dIn_let (c : Nat) (h1 : 97 ≤ c) (h2 : c ≤ 122) (Q : D → Prop) : dIn (.str ⟨#[c]⟩) (.str "abcdefghijklmnopqrstuvwxyz") Q = Q (.bl true) := by
  have := let_in ⟨c - 97, by omega⟩
  have e : 97 + (c - 97) = c := by omega
  simp only [e] at this
  show Q (.bl _) = _
  rw [this]
theorem blsOf_true (l : List Nat) : blsOf (l.map fun _ => D.bl true) = some (l.map fun _ => true) := by
  induction l with
  | nil => rfl
  | cons a r ih => simp only [List.map_cons, blsOf, ih]; rfl
theorem w_is_name (a : Str) (h : nmOk a) (Q : D → Zs → Prop) (X : Er → Zs → Prop) (z : Zs) (hq : Q (.bl true) z) : m_is_name [.str a] Q X z := by
  rw [me_is_name]
  have l1 : a.length = a.cps.toList.length := rfl
  have h1 := h.1
  have h2 := h.2.1
  simp [s_is_name, dLen_s]
  refine ⟨by omega, fun _ => ⟨fun _ => ?_, fun k => absurd k (by omega)⟩, fun k => absurd k (by omega)⟩
  show lcL [1] (gN 1) (ep true) p0_is_name (a.cps.toList.map fun c => D.str ⟨#[c]⟩) [] (wipeR [Sl.fr (.str a), Sl.no] [1]) _ _ z
  simp only [wipeR, List.set_cons_zero, List.set_cons_succ]
  refine lc_run 1 _ (fun c : Nat => D.str ⟨#[c]⟩) (fun _ => .bl true) (fun d => rfl) _ z a.cps.toList [] _ _ (fun c hc Q' hQ => ?_) (by simp only [List.length_nil]; omega) ?_
  · obtain ⟨c1, c2⟩ := h.2.2 c hc
    rw [p0_is_name]
    simp
    rw [dIn_let c c1 c2]
    simpa using hQ
  · refine ⟨_, blsOf_true _, ?_⟩
    have : (a.cps.toList.map fun _ => true).all id = true := by simp
    rw [this]; exact hq
theorem w_names (d : Dd) (Q : D → Zs → Prop) (X : Er → Zs → Prop) (z : Zs) (hq : Q (.tup ((match d with | .mark a => [a] | .go a => [a] | .span a c => [a, c] | _ => []).map .str)) z) : m_deed_names [d.D] Q X z := by
  by_cases hb : d.bare = true
  · refine w_names_bare d hb Q X z ?_
    cases d <;> first | (cases hb; done) | exact hq
  rw [me_deed_names]
  have c2 : ∀ x y : D, DL.cutD [x, y] (some 1) none = [y] := fun _ _ => rfl
  have c3 : ∀ x y w : D, DL.cutD [x, y, w] (some 1) none = [y, w] := fun _ _ _ => rfl
  cases d <;> first | (exact absurd rfl hb) | skip
  all_goals
    simp [s_deed_names, Dd.D, dKey_s, c2, c3]
    exact hq
theorem eq_t3 (s a : Str) (Q : Bool → Prop) (hs : PyData.strOk s = true) (ha : PyData.strOk a = true) : dEqG (.tup [.str s, .str a]) (.tup []) Q = Q false := dEqG_of rfl rfl (by simp [D.py, pyL, SeqAt.shaped, PyData.canLay0, PyData.canLayAll0, PyData.depth, PyData.depthAll, hs, ha]) (by decide) (by simp [D.py, pyL, PyData.eqv, PyData.eqvAll]) Q
theorem eq_t4 (s a c : Str) (Q : Bool → Prop) (hs : PyData.strOk s = true) (ha : PyData.strOk a = true) (hc : PyData.strOk c = true) : dEqG (.tup [.str s, .str a, .str c]) (.tup []) Q = Q false := dEqG_of rfl rfl (by simp [D.py, pyL, SeqAt.shaped, PyData.canLay0, PyData.canLayAll0, PyData.depth, PyData.depthAll, hs, ha, hc]) (by decide) (by simp [D.py, pyL, PyData.eqv, PyData.eqvAll]) Q
theorem wl_names (s0 s2 s3 : Sl) (z : Zs) : ∀ (ls : List Str) (t : Sl) (Q : Fl → Rho → Zs → Prop) (X : Er → Rho → Zs → Prop), (∀ a ∈ ls, nmOk a) → (∀ t, Q .nx [s0, t, s2, s3] z) → forL (gN 1) p0_checked_deed (ls.map .str) [s0, t, s2, s3] Q X z := by
  intro ls
  induction ls with
  | nil => intro t Q X _ h; simpa using h t
  | cons a r ih =>
    intro t Q X hn h
    simp only [List.map_cons, forL_cons]
    simp
    rw [p0_checked_deed]
    simp
    refine w_is_name a (hn a List.mem_cons_self) _ _ z ?_
    simp
    exact ih _ Q X (fun b hb => hn b (List.mem_cons_of_mem _ hb)) h
theorem w_checked (d : Dd) (hd : d.Ok) (Q : D → Zs → Prop) (X : Er → Zs → Prop) (z : Zs) (hq : Q d.D z) : m_checked_deed [d.D] Q X z := by
  by_cases hb : d.bare = true
  · exact w_checked_bare d hd hb Q X z hq
  have hn := w_names d
  rw [me_checked_deed]
  cases d <;> first | (exact absurd rfl hb) | skip
  · rename_i a
    simp [s_checked_deed, Dd.D, dKey_s, dNotInK_s]
    rw [eq_t3 _ a _ (by decide +kernel) (nm_strOk hd)]
    simp
    refine hn _ _ z ?_
    simp
    exact wl_names _ _ _ z [a] _ _ _ (fun b hb => by rw [List.mem_singleton.mp hb]; exact hd) fun t => by simp; exact hq
  · rename_i a
    simp [s_checked_deed, Dd.D, dKey_s, dNotInK_s]
    rw [eq_t3 _ a _ (by decide +kernel) (nm_strOk hd)]
    simp
    refine hn _ _ z ?_
    simp
    exact wl_names _ _ _ z [a] _ _ _ (fun b hb => by rw [List.mem_singleton.mp hb]; exact hd) fun t => by simp; exact hq
  · rename_i a c
    simp [s_checked_deed, Dd.D, dKey_s, dNotInK_s]
    rw [eq_t4 _ a c _ (by decide +kernel) (nm_strOk hd.1) (nm_strOk hd.2)]
    simp
    refine hn _ _ z ?_
    simp
    exact wl_names _ _ _ z [a, c] _ _ _ (fun b hb => by rcases List.mem_cons.mp hb with rfl | hb; exact hd.1; rw [List.mem_singleton.mp hb]; exact hd.2) fun t => by simp; exact hq
end LW

namespace LW
open PySem PySem.Spec PyProof.Rows L2 DL
/-! texts of small letters -/
def sL (cs : List Nat) : Str := ⟨cs.toArray⟩
@[simp] theorem sL_tx (cs : List Nat) : (sL cs).cps.toList = cs := by simp [sL]
theorem sL_len (cs : List Nat) : (sL cs).length = cs.length := by
  show (sL cs).cps.size = _
  rw [← Array.length_toList, sL_tx]
theorem tx_ext {a b : Str} (h : a.cps.toList = b.cps.toList) : a = b := by
  cases a; cases b
  simp only at h
  congr
  exact Array.toList_inj.mp h
theorem sL_app (a b : List Nat) : sL a ++ sL b = sL (a ++ b) := by
  apply tx_ext
  show ((sL a).cps ++ (sL b).cps).toList = _
  simp
theorem sl_none (t : Str) (hi : Option Int) : Txt.slice t none hi = Txt.slice t (some 0) hi := by
  unfold Txt.slice
  have : Builtin.Str.strSliceIndices none hi 1 t.length = Builtin.Str.strSliceIndices (some 0) hi 1 t.length := by
    unfold Builtin.Str.strSliceIndices
    have h4 : max (0 : Int) (min 0 (t.length : Int)) = 0 := by omega
    simp [h4]
  rw [this]
theorem sl_big (t : Str) (n : Int) (h : (t.length : Int) ≤ n) : Txt.slice t (some 0) (some n) = Txt.slice t (some 0) (some (t.length : Int)) := by
  unfold Txt.slice
  have : Builtin.Str.strSliceIndices (some 0) (some n) 1 t.length = Builtin.Str.strSliceIndices (some 0) (some (t.length : Int)) 1 t.length := by
    unfold Builtin.Str.strSliceIndices
    have h1 : ¬ n < 0 := by omega
    have h2 : min n (t.length : Int) = t.length := by omega
    have h3 : ¬ (t.length : Int) < 0 := by omega
    simp [h1, h2, h3]
  rw [this]
theorem sl_hi (t : Str) (lo : Option Int) : Txt.slice t lo none = Txt.slice t lo (some (t.length : Int)) := by
  unfold Txt.slice
  have : Builtin.Str.strSliceIndices lo none 1 t.length = Builtin.Str.strSliceIndices lo (some (t.length : Int)) 1 t.length := by
    unfold Builtin.Str.strSliceIndices
    have h3 : ¬ (t.length : Int) < 0 := by omega
    simp [h3]
  rw [this]
theorem cut_nat {t : Str} {a b : Nat} (h1 : a ≤ b) (h2 : b ≤ t.length) : (Txt.slice t (some (a : Int)) (some (b : Int))).cps.toList = (t.cps.toList.drop a).take (b - a) := by
  have tl : t.length = t.cps.toList.length := Array.length_toList.symm
  have ix := StrLaws.strSliceIndices_plain h1 h2
  by_cases q : ((1 : Int) == 1 && (Builtin.Str.strSliceIndices (some (a : Int)) (some (b : Int)) 1 t.length).length == t.length) = true
  · have e : Txt.slice t (some (a : Int)) (some (b : Int)) = t := if_pos q
    rw [e]
    simp [ix] at q
    have a0 : a = 0 := by omega
    have bl : b - a = t.cps.toList.length := by omega
    rw [bl, a0, List.drop_zero, List.take_length]
  · have e := StrLaws.sliced_plain t h1 h2
    unfold Txt.slice
    rw [if_neg q]
    exact e
theorem slice_take (cs : List Nat) (n : Int) (h0 : 0 ≤ n) : Txt.slice (sL cs) none (some n) = sL (cs.take n.toNat) := by
  rw [sl_none]
  apply tx_ext
  rw [sL_tx]
  obtain ⟨k, rfl⟩ := Int.eq_ofNat_of_zero_le h0
  by_cases hk : k ≤ cs.length
  · have := cut_nat (t := sL cs) (a := 0) (b := k) (by omega) (by rw [sL_len]; exact hk)
    simpa using this
  · rw [sl_big _ _ (by rw [sL_len]; omega)]
    have := cut_nat (t := sL cs) (a := 0) (b := (sL cs).length) (by omega) (by omega)
    rw [sL_len] at this ⊢
    simp only [Int.natCast_zero, sL_tx, List.drop_zero, Nat.sub_zero, List.take_length] at this
    rw [List.take_of_length_le (by simp; omega)]
    exact this
theorem slice_drop (cs : List Nat) (n : Int) (h0 : 0 ≤ n) (h1 : n ≤ cs.length) : Txt.slice (sL cs) (some n) none = sL (cs.drop n.toNat) := by
  rw [sl_hi]
  apply tx_ext
  rw [sL_tx]
  obtain ⟨k, rfl⟩ := Int.eq_ofNat_of_zero_le h0
  have := cut_nat (t := sL cs) (a := k) (b := (sL cs).length) (by rw [sL_len]; omega) (by omega)
  rw [this, sL_tx, sL_len, List.take_of_length_le (by simp)]
  rfl
theorem glue_fold (cs : List Nat) : ∀ acc : Array Nat, ((cs.map fun c => (⟨#[c]⟩ : Str)).foldl (fun acc p => acc ++ ("" : Str).cps ++ p.cps) acc).toList = acc.toList ++ cs := by
  induction cs with
  | nil => intro acc; simp
  | cons c r ih =>
    intro acc
    simp only [List.map_cons, List.foldl_cons]
    rw [ih]
    have : ("" : Str).cps = #[] := by decide +kernel
    simp [this]
theorem join_one (cs : List Nat) : Txt.join "" (cs.map fun c => (⟨#[c]⟩ : Str)) = sL cs := by
  apply tx_ext
  rw [sL_tx]
  cases cs with
  | nil => decide +kernel
  | cons c r =>
    have := glue_fold r #[c]
    exact this
theorem strsOf_one (cs : List Nat) : strsOf (cs.map fun c => D.str ⟨#[c]⟩) = some (cs.map fun c => (⟨#[c]⟩ : Str)) := by
  induction cs with
  | nil => rfl
  | cons c r ih => simp only [List.map_cons, strsOf, ih]; rfl
theorem join_ok (cs : List Nat) (hl : cs.length ≤ 1000) (Q : D → Prop) (h : Q (.str (sL cs))) : dJoin "" (.lst (cs.map fun c => D.str ⟨#[c]⟩)) Q := by
  refine ⟨_, strsOf_one cs, ?_, by rw [join_one]; exact h⟩
  have e : ((cs.map fun c => (⟨#[c]⟩ : Str)).map (·.length)).sum = cs.length := by
    rw [List.map_map]
    clear hl h
    induction cs with
    | nil => rfl
    | cons c r ih => simp only [List.map_cons, List.sum_cons, List.length_cons, ih]; show 1 + _ = _; omega
  rw [e]
  have : ("" : Str).length = 0 := by decide +kernel
  rw [this]; omega
/-- small letters -/
def sm8 (cs : List Nat) : Prop := ∀ c ∈ cs, 97 ≤ c ∧ c ≤ 122
theorem nm_sL {cs : List Nat} (h : sm8 cs) (h1 : 1 ≤ cs.length) (h8 : cs.length ≤ 8) : nmOk (sL cs) := ⟨by rw [sL_tx]; exact h1, by rw [sL_tx]; exact h8, by rw [sL_tx]; exact h⟩
theorem let_cps : ("abcdefghijklmnopqrstuvwxyz" : Str).cps.toList = (List.range 26).map (97 + ·) := by decide +kernel
theorem let_ix (i : Int) (h0 : 0 ≤ i) (h1 : i < 26) (Q : D → Prop) (h : Q (.str ⟨#[97 + i.toNat]⟩)) : dIx (.str "abcdefghijklmnopqrstuvwxyz") (.int i) Q := by
  refine ⟨by decide +kernel, 97 + i.toNat, ?_, h⟩
  rw [let_cps]
  obtain ⟨k, rfl⟩ := Int.eq_ofNat_of_zero_le h0
  have hk : k < ((List.range 26).map (97 + ·)).length := by simp; omega
  have := atI_nat ((List.range 26).map (97 + ·)) k hk
  rw [this]
  simp
end LW

namespace LW
open PySem PySem.Spec PyProof.Rows L2 DL
theorem pk {α : Type} {ds : List α} {c : Int} (P : α → Prop) (c0 : 0 ≤ c) (c1 : c < ds.length) (hp : ∀ d ∈ ds, P d) {K : α → Prop} (h : ∀ d, P d → K d) : ∃ d, L2.atI ds c = some d ∧ K d := atI_all ds c c0 c1 K fun d hd => h d (hp d hd)
theorem op_rr {u v : Int} (h1 : 1 ≤ u) (h : u ≤ v) (h9 : v ≤ 10 ^ 17) : Op (rr u v) := by
  have A := rr_fr (m := v) (u := u) (v := v) (by omega) (by omega) h (Int.le_refl _)
  obtain ⟨g, B⟩ := rr_pl (u := u) (v := v) (by omega) (by omega)
  have ps := rr_pos (u := u) (v := v) (by omega) (by omega)
  generalize rr u v = p at *
  refine ⟨by omega, ?_, by have := A.d9; omega, A.g⟩
  have e1 := B.e1
  have e2 := B.e2
  exact Int.le_of_mul_le_mul_right (a := g) (by omega) (by have := B.g1; omega)
theorem pick {ds : List D} {c : Int} (P : D → Prop) (c0 : 0 ≤ c) (c1 : c < ds.length) (hp : ∀ d ∈ ds, P d) {K : D → Prop} (h : ∀ d, P d → K d) : dIx (.lst ds) (.int c) K := pk P c0 c1 hp h
/-- its names are of a list -/
def Dd.In (ls : List Str) : Dd → Prop
  | .mark a => a ∈ ls
  | .go a => a ∈ ls
  | .span a c => a ∈ ls ∧ c ∈ ls
  | _ => True
theorem w__law_ds_act (ls : List Str) (l0 : ls ≠ []) (l1 : ls.length ≤ 1000) (hn : ∀ a ∈ ls, nmOk a) (g : Int) (g1 : 1 ≤ g) (g9 : g ≤ 99) (Q : D → Zs → Prop) (X : Er → Zs → Prop) (z : Zs) (hz : z.n < 10 ^ 14) (h : ∀ d m, Dd.Ok d → d.In ls → m ≤ z.n + 4 → Q d.D { z with n := m }) : m__law_ds_act [.cel, .lst (ls.map .str), .int g] Q X z := by
  rw [me__law_ds_act]
  simp [s__law_ds_act]
  have l2 : 1 ≤ ls.length := by cases ls with | nil => exact absurd rfl l0 | cons a r => simp
  refine w__law_coin 14 _ _ z (by omega) (by omega) (by omega) fun c m1 c0 c1 hm1 => ?_
  refine w__law_coin g _ _ _ (by omega) (by omega) (by show m1 < _; omega) fun n m2 n0 n1 (hm2 : m2 ≤ m1 + 1) => ?_
  simp
  refine w__law_coin _ _ _ _ (by omega) (by omega) (by show m2 < _; omega) fun c3 m3 c30 c31 (hm3 : m3 ≤ m2 + 1) => ?_
  refine pick (fun d => ∃ a, d = .str a ∧ nmOk a ∧ a ∈ ls) c30 (by simpa using c31) (by simpa using fun a ha => ⟨hn a ha, ha⟩) ?_
  rintro d ⟨a, rfl, ha, ia⟩
  refine w__law_coin _ _ _ _ (by omega) (by omega) (by show m3 < _; omega) fun c4 m4 c40 c41 (hm4 : m4 ≤ m3 + 1) => ?_
  refine pick (fun d => ∃ a, d = .str a ∧ nmOk a ∧ a ∈ ls) c40 (by simpa using c41) (by simpa using fun a ha => ⟨hn a ha, ha⟩) ?_
  rintro d ⟨b, rfl, hb, ib⟩
  have n9 : 1 ≤ 1 + n ∧ 1 + n ≤ 99 := by omega
  have o9 : (1 : Int) ≤ 1 ∧ (1 : Int) ≤ 99 := by omega
  refine pick (fun d => ∃ e : Dd, d = e.D ∧ e.Ok ∧ e.In ls) c0 (by simpa using c1) ?_ ?_
  · intro d hd
    simp only [List.mem_cons, List.not_mem_nil, or_false] at hd
    rcases hd with rfl | rfl | rfl | rfl | rfl | rfl | rfl | rfl | rfl | rfl | rfl | rfl | rfl | rfl
    · exact ⟨.fill (1 + n), rfl, n9, trivial⟩
    · exact ⟨.fill (1 + n), rfl, n9, trivial⟩
    · exact ⟨.fill 1, rfl, o9, trivial⟩
    · exact ⟨.steps (1 + n), rfl, n9, trivial⟩
    · exact ⟨.steps 1, rfl, o9, trivial⟩
    · exact ⟨.mark a, rfl, ha, ia⟩
    · exact ⟨.mark a, rfl, ha, ia⟩
    · exact ⟨.gap, rfl, trivial, trivial⟩
    · exact ⟨.turn, rfl, trivial, trivial⟩
    · exact ⟨.left, rfl, trivial, trivial⟩
    · exact ⟨.right, rfl, trivial, trivial⟩
    · exact ⟨.go a, rfl, ha, ia⟩
    · exact ⟨.span a b, rfl, ⟨ha, hb⟩, ⟨ia, ib⟩⟩
    · exact ⟨.rest, rfl, trivial, trivial⟩
  · rintro d ⟨e, rfl, he, ie⟩
    exact h e m4 he ie (by omega)
end LW

namespace LW
open PySem PySem.Spec PyProof.Rows L2 DL
/-- letters, drawn -/
theorem lc_lets (s1 s2 s3 s4 s5 s7 s8 s9 s10 s11 s12 s13 s14 : Sl) (cs : List MC) (pf : E D) (hp : ∀ (ρ : Rho) Q X z, pf ρ Q X z = (bO dIx (ePk 6) (eCall 2 2 0 m__law_coin gL (aC (eVar 0) (aC (ep (.int 26)) aN)) aN)) ρ Q X z) : ∀ (n : Nat) (i : Int) (acc : List Nat) (m : Int) (Q : List D → Rho → Zs → Prop) (X : Er → Rho → Zs → Prop), acc.length + n ≤ 1000 → sm8 acc → m + n < 10 ^ 14 →
    (∀ (ls : List Nat) m', ls.length = acc.length + n → sm8 ls → m' ≤ m + n → Q (ls.map fun c => .str ⟨#[c]⟩) [Sl.fr .cel, s1, s2, s3, s4, s5, Sl.fr (.str "abcdefghijklmnopqrstuvwxyz"), s7, s8, s9, s10, s11, s12, s13, s14, Sl.no] ⟨m', cs⟩) →
    lcL [15] (gN 15) (ep true) pf (rngD i n) (acc.map fun c => .str ⟨#[c]⟩) [Sl.fr .cel, s1, s2, s3, s4, s5, Sl.fr (.str "abcdefghijklmnopqrstuvwxyz"), s7, s8, s9, s10, s11, s12, s13, s14, Sl.no] Q X ⟨m, cs⟩ := by
  intro n
  induction n with
  | zero => intro i acc m Q X _ sm _ h; simpa [rngD] using h acc m rfl sm (by omega)
  | succ n ih =>
    intro i acc m Q X hl sm hm h
    simp only [rngD]
    rw [lcL_cons]
    simp
    rw [hp]
    simp
    refine w__law_coin 26 _ _ _ (by omega) (by omega) (by show m < _; omega) fun c m1 c0 c1 (hm1 : m1 ≤ m + 1) => ?_
    refine let_ix c c0 c1 _ ?_
    refine ⟨by omega, ?_⟩
    simp only [wipeR, List.set_cons_zero, List.set_cons_succ]
    have e : (acc.map fun c => D.str ⟨#[c]⟩) ++ [D.str ⟨#[97 + c.toNat]⟩] = (acc ++ [97 + c.toNat]).map fun c => D.str ⟨#[c]⟩ := by rw [List.map_append]; rfl
    rw [e]
    refine ih (i + 1) _ m1 Q X (by simp; omega) (fun x hx => ?_) (by omega) fun ls m' h1 h2 h3 => h ls m' (by simp at h1; omega) h2 (by omega)
    rcases List.mem_append.mp hx with h6 | h6
    · exact sm x h6
    · rw [List.mem_singleton.mp h6]; omega
end LW

namespace LW
open PySem PySem.Spec PyProof.Rows L2 DL
def wd_6 : E Fl := (sSeq (sAsg (eTup (aC (eCall 2 2 0 m__law_coin gL (aC (eVar 0) (aC (ep (.int 26)) aN)) aN) (aC (eb (ePk 3) fun d => eb (ep none) fun lo => eb (eb (eCall 2 2 0 m__law_coin gL (aC (eVar 0) (aC (ep (.int 8)) aN)) aN) fPart) fun hi => fSlE d lo hi) aN))) (gTp 2 (gCn (gN 8) (gCn (gN 11) gNl))))
    (sSeq (sParFO 12 4 (eCall 2 2 0 m__law_coin gL (aC (eVar 0) (aC (bO dAdd (uO dLen (ePk 11)) (ep (.int 1))) aN)) aN) (eLst aN))
    (sSeq (sFor (eb (aC (eVar 1) aN) fRng1) (gN 5) p0__law_words)
    (sRetV 4))))
def wd_5 : E Fl := (sSeq (sIf (eT (bO dEq (uO dLenSet (ePk 4)) (ePk 1)))
    (sRetV 4)
    (ep .nx))
    wd_6)
def wd_4 : E Fl := (sSeq (sIf (eT (bO dEq (ePk 7) (ep (.int 4))))
    (sSeq (sAsg (eb (ePk 3) fun d => eb (ep none) fun lo => eb (eb (bO dAdd (ep (.int 1)) (eCall 2 2 0 m__law_coin gL (aC (eVar 0) (aC (ep (.int 5)) aN)) aN)) fPart) fun hi => fSlE d lo hi) (gN 9))
    (sSeq (sAsgO (eLst (aC (eVar 9) aN)) 4)
    (sSeq (sFor (eb (eVar 2) fSeqI) (gN 10) p1__law_words)
    (sAsgO (eb (ePk 4) fun d => eb (ep none) fun lo => eb (eb (ePk 1) fPart) fun hi => fSlO d lo hi) 4))))
    (ep .nx))
    wd_5)
def wd_3 : E Fl := (sSeq (sIf (eT (bO dEq (ePk 7) (ep (.int 3))))
    (sFor (eb (aC (eVar 1) aN) fRng1) (gN 5) p3__law_words)
    (ep .nx))
    wd_4)
theorem words_split : s__law_words = (sSeq (sAsg (eTup (aC (ep (.str "abcdefghijklmnopqrstuvwxyz")) (aC (eCall 2 2 0 m__law_coin gL (aC (eVar 0) (aC (ep (.int 5)) aN)) aN) aN))) (gTp 2 (gCn (gN 6) (gCn (gN 7) gNl))))
    (sSeq (sAsg (oP (eLst (aC (ep (.str "left")) (aC (ep (.str "right")) (aC (ep (.str "steps")) (aC (ep (.str "fill")) (aC (ep (.str "gap")) (aC (ep (.str "span")) (aC (ep (.str "mark")) aN))))))))) (gN 2))
    (sSeq (sAsg (oP (bC (ePk 2) (oP (eLst (aC (ep (.str "go")) (aC (ep (.str "turn")) (aC (ep (.str "rest")) (aC (ep (.str "t")) (aC (ep (.str "a")) (aC (ep (.str "b")) (aC (ep (.str "nothing")) aN))))))))))) (gN 2))
    (sSeq (sAsg (eb (oP (eLc [15] (eb (aC (ep (.int 8)) aN) fRng1) (gN 15) (ep true) p6__law_words)) fun y => eP (dJoin "" y)) (gN 3))
    (sSeq (sIf (eAnd (eT (bO dEq (ePk 7) (ep (.int 0)))) (eT (bO dLt (ePk 1) (ep (.int 15)))))
    (sSeq (sAsg (eCall 2 2 0 m__law_coin gL (aC (eVar 0) (aC (ep (.int 14)) aN)) aN) (gN 8))
    (sRetO (eLc [5] (eb (aC (eVar 1) aN) fRng1) (gN 5) (ep true) p5__law_words)))
    (ep .nx))
    (sSeq (sIf (eAnd (eT (bO dEq (ePk 7) (ep (.int 1)))) (eT (bO dLt (ePk 1) (ep (.int 9)))))
    (sSeq (sAsg (eCall 2 2 0 m__law_coin gL (aC (eVar 0) (aC (bO dSub (ep (.int 9)) (ePk 1)) aN)) aN) (gN 8))
    (sRetO (eLc [5] (eb (aC (eVar 1) aN) fRng1) (gN 5) (ep true) p4__law_words)))
    (ep .nx))
    (sSeq (sAsgO (eLst aN) 4)
    wd_3))))))) := rfl
end LW

namespace LW
open PySem PySem.Spec PyProof.Rows L2 DL
@[simp] theorem fSlE_s (s : Str) (lo hi : Option Int) (ρ : Rho) (Q : D → Rho → Zs → Prop) (X : Er → Rho → Zs → Prop) (z : Zs) : fSlE (.str s) lo hi ρ Q X z = (s.length ≤ 16777216 ∧ Q (.str (Txt.slice s lo hi)) ρ z) := propext Iff.rfl
theorem one_sL (c : Nat) : (⟨#[c]⟩ : Str) = sL [c] := rfl
def wF (tl : List Nat) (sp st : Nat) (r : Nat) : Str := sL (tl.take sp ++ [97 + (st + r) % 26] ++ tl.drop sp)
theorem wl_wd6 (n : D) (s2 s3 s7 s9 s10 s14 : Sl) (tl : List Nat) (sp st : Nat) (h8 : tl.length ≤ 7) (hs : sp ≤ tl.length) (z : Zs) : ∀ (k i : Nat) (t5 t13 : Sl) (Q : Fl → Rho → Zs → Prop) (X : Er → Rho → Zs → Prop), i + k ≤ 1000 →
    (∀ t5 t13, Q .nx [Sl.fr .cel, Sl.fr n, s2, s3, Sl.own ((List.range (i + k)).map fun r => .str (wF tl sp st r)), t5, Sl.fr (.str "abcdefghijklmnopqrstuvwxyz"), s7, Sl.fr (.int st), s9, s10, Sl.fr (.str (sL tl)), Sl.fr (.int sp), t13, s14, Sl.no] z) →
    forL (gN 5) p0__law_words (rngD (i : Int) k) [Sl.fr .cel, Sl.fr n, s2, s3, Sl.own ((List.range i).map fun r => .str (wF tl sp st r)), t5, Sl.fr (.str "abcdefghijklmnopqrstuvwxyz"), s7, Sl.fr (.int st), s9, s10, Sl.fr (.str (sL tl)), Sl.fr (.int sp), t13, s14, Sl.no] Q X z := by
  intro k
  induction k with
  | zero => intro i t5 t13 Q X _ h; simpa [rngD] using h t5 t13
  | succ k ih =>
    intro i t5 t13 Q X hl h
    simp only [rngD, forL_cons]
    simp
    rw [p0__law_words]
    have e1 : ((st : Int) + (i : Int)).fmod 26 = (((st + i) % 26 : Nat) : Int) := by rw [Int.fmod_eq_emod_of_nonneg _ (by omega)]; omega
    have l26 : Nat.log2 26 < 9000 := by decide +kernel
    simp [e1, l26]
    refine let_ix _ (by omega) (by omega) _ ?_
    have t1 : (((st : Int) + (i : Int)) % 26).toNat = (st + i) % 26 := by omega
    have sl1 := slice_take tl (sp : Int) (by omega)
    have sl2 := slice_drop tl (sp : Int) (by omega) (by omega)
    simp only [Int.toNat_natCast] at sl1 sl2
    rw [one_sL, t1]
    simp only [fSlE_s, sl1]
    refine ⟨by rw [sL_len]; omega, ?_⟩
    simp
    rw [sl2]
    simp only [sL_app, sL_len, List.length_append, List.length_take, List.length_drop, List.length_cons, List.length_nil]
    refine ⟨by omega, by omega, by omega, by omega, ?_⟩
    have em : (List.range i).map (fun r => D.str (wF tl sp st r)) ++ [D.str (sL (tl.take sp ++ [97 + (st + i) % 26] ++ tl.drop sp))] = (List.range (i + 1)).map fun r => D.str (wF tl sp st r) := by
      rw [List.range_succ, List.map_append]; rfl
    rw [em]
    exact ih (i + 1) _ _ Q X (by omega) fun t5 t13 => by rw [show i + 1 + k = i + (k + 1) by omega]; exact h t5 t13
theorem wF_nd (tl : List Nat) (sp st n : Nat) (hs : sp ≤ tl.length) (hn : n ≤ 14) : ((List.range n).map (wF tl sp st)).Nodup := by
  refine List.pairwise_map.mpr (List.nodup_range.imp_of_mem ?_)
  intro a b ha hb ne e
  have ha := List.mem_range.mp ha
  have hb := List.mem_range.mp hb
  have h1 : (sL (tl.take sp ++ [97 + (st + a) % 26] ++ tl.drop sp)).cps.toList = (sL (tl.take sp ++ [97 + (st + b) % 26] ++ tl.drop sp)).cps.toList := congrArg (fun s : Str => s.cps.toList) e
  rw [sL_tx, sL_tx] at h1
  have h2 := congrArg (fun l : List Nat => l[sp]?) h1
  have l1 : (tl.take sp).length = sp := by simp; omega
  simp [List.getElem?_append, l1] at h2
  omega
theorem wF_nm {tl : List Nat} {sp st r : Nat} (h8 : tl.length ≤ 7) (sm : sm8 tl) : nmOk (wF tl sp st r) := by
  refine nm_sL (fun c hc => ?_) (by simp; omega) (by simp; omega)
  simp only [List.mem_append, List.mem_singleton] at hc
  rcases hc with (h | h) | h
  · exact sm c (List.mem_of_mem_take h)
  · omega
  · exact sm c (List.mem_of_mem_drop h)
theorem w_wd6 (n : Nat) (n9 : n ≤ 14) (stem : List Nat) (hs : stem.length = 8) (sm : sm8 stem) (s2 s4 s5 s7 s8 s9 s10 s11 s12 s13 s14 : Sl) (m : Int) (cs : List MC) (hm : m < 10 ^ 13) (Q : List D → Zs → Prop) (X : Er → Rho → Zs → Prop)
    (h : ∀ (ls : List Str) m', ls.length = n → ls.Nodup → (∀ a ∈ ls, nmOk a) → m' ≤ m + 3 → Q (ls.map .str) ⟨m', cs⟩) : wd_6 [Sl.fr .cel, Sl.fr (.int n), s2, Sl.fr (.str (sL stem)), s4, s5, Sl.fr (.str "abcdefghijklmnopqrstuvwxyz"), s7, s8, s9, s10, s11, s12, s13, s14, Sl.no] (outO Q) X ⟨m, cs⟩ := by
  unfold wd_6
  simp
  refine w__law_coin 26 _ _ _ (by omega) (by omega) (by show m < _; omega) fun st m1 st0 st1 (hm1 : m1 ≤ m + 1) => ?_
  refine w__law_coin 8 _ _ _ (by omega) (by omega) (by show m1 < _; omega) fun c m2 c0 c1 (hm2 : m2 ≤ m1 + 1) => ?_
  simp
  rw [slice_take stem c c0]
  refine ⟨by rw [sL_len]; omega, ?_⟩
  have tl7 : (stem.take c.toNat).length ≤ 7 := by simp; omega
  have smt : sm8 (stem.take c.toNat) := fun x hx => sm x (List.mem_of_mem_take hx)
  generalize stem.take c.toNat = tl at *
  refine ⟨by rw [sL_len]; omega, ?_⟩
  rw [sL_len]
  simp
  refine w__law_coin _ _ _ _ (by omega) (by omega) (by show m2 < _; omega) fun sp m3 p0 p1 (hm3 : m3 ≤ m2 + 1) => ?_
  refine ⟨by omega, ?_⟩
  obtain ⟨st, rfl⟩ := Int.eq_ofNat_of_zero_le st0
  obtain ⟨sp, rfl⟩ := Int.eq_ofNat_of_zero_le p0
  have key := wl_wd6 (.int n) s2 (Sl.fr (.str (sL stem))) s7 s9 s10 s14 tl sp st tl7 (by omega) ⟨m3, cs⟩ n 0 s5 s13
  simp only [List.range_zero, List.map_nil] at key
  refine key _ _ (by omega) fun t5 t13 => ?_
  simp
  have e : (List.range n).map (fun r => D.str (wF tl sp st r)) = ((List.range n).map (wF tl sp st)).map .str := by rw [List.map_map]; rfl
  rw [e]
  exact h _ m3 (by simp) (wF_nd tl sp st n (by omega) n9) (fun a ha => by obtain ⟨r, _, rfl⟩ := List.mem_map.mp ha; exact wF_nm tl7 smt) (by omega)
theorem uniq_nd (l : List Str) (h : (uniq l).length = l.length) : l.Nodup := by
  have key : ∀ (l σ : List Str), σ.Nodup → (l.foldl stp σ).length = σ.length + l.length → (σ ++ l).Nodup := by
    intro l
    induction l with
    | nil => intro σ h _; simpa using h
    | cons a r ih =>
      intro σ hs hl
      have le : ∀ (l σ : List Str), (l.foldl stp σ).length ≤ σ.length + l.length := by
        intro l
        induction l with
        | nil => intro σ; simp
        | cons b r ih => intro σ; simp only [List.foldl_cons, List.length_cons]; have := ih (stp σ b); have := stp_le σ b; omega
      simp only [List.foldl_cons, List.length_cons] at hl
      by_cases e : a ∈ σ
      · have : stp σ a = σ := by unfold stp; rw [if_pos e]
        rw [this] at hl
        have := le r σ
        omega
      · have q : stp σ a = σ ++ [a] := by unfold stp; rw [if_neg e]
        rw [q] at hl
        have := ih (σ ++ [a]) (by rw [List.nodup_append]; exact ⟨hs, by simp, fun x hx y hy => by simp at hy; intro k; exact e (by rw [← hy, ← k]; exact hx)⟩) (by simp; omega)
        simpa using this
  have := key l [] List.nodup_nil (by simpa [uniq] using h)
  simpa using this
theorem strsOf_strs (ls : List Str) : strsOf (ls.map .str) = some ls := by
  induction ls with
  | nil => rfl
  | cons a r ih => simp only [List.map_cons, strsOf, ih]; rfl
theorem w_wd5 (n : Nat) (n1 : 1 ≤ n) (n9 : n ≤ 14) (stem : List Nat) (hs : stem.length = 8) (sm : sm8 stem) (gs : List Str) (hg : gs = [] ∨ gs.length = n) (gn : ∀ a ∈ gs, nmOk a) (s2 s5 s7 s8 s9 s10 s11 s12 s13 s14 : Sl) (m : Int) (cs : List MC) (hm : m < 10 ^ 13) (Q : List D → Zs → Prop) (X : Er → Rho → Zs → Prop)
    (h : ∀ (ls : List Str) m', ls.length = n → ls.Nodup → (∀ a ∈ ls, nmOk a) → m' ≤ m + 3 → Q (ls.map .str) ⟨m', cs⟩) : wd_5 [Sl.fr .cel, Sl.fr (.int n), s2, Sl.fr (.str (sL stem)), Sl.own (gs.map .str), s5, Sl.fr (.str "abcdefghijklmnopqrstuvwxyz"), s7, s8, s9, s10, s11, s12, s13, s14, Sl.no] (outO Q) X ⟨m, cs⟩ := by
  unfold wd_5
  simp
  refine ⟨gs, strsOf_strs gs, ?_, ?_⟩
  · rcases hg with rfl | hg
    · simp
    · omega
  simp
  refine ⟨fun e => ?_, fun e => ?_⟩
  · have ge : gs.length = n := by
      rcases hg with rfl | hg
      · simp [uniq] at e; omega
      · exact hg
    exact h gs m ge (uniq_nd gs (by omega)) gn (by omega)
  · exact w_wd6 n n9 stem hs sm _ _ _ _ _ _ _ _ _ _ _ m cs hm Q X h
end LW

namespace LW
open PySem PySem.Spec PyProof.Rows L2 DL
theorem cutD_take (xs : List D) (n : Int) (h0 : 0 ≤ n) : DL.cutD xs none (some n) = xs.take n.toNat := by
  obtain ⟨k, rfl⟩ := Int.eq_ofNat_of_zero_le h0
  unfold DL.cutD
  have e1 : HT.sIx xs.length 0 none = 0 := rfl
  have e2 : HT.sIx xs.length xs.length (some (k : Int)) = min k xs.length := HT.sIx_nat ..
  rw [e1, e2]
  simp
def menuN : List (List Nat) := [[108, 101, 102, 116], [114, 105, 103, 104, 116], [115, 116, 101, 112, 115], [102, 105, 108, 108], [103, 97, 112], [115, 112, 97, 110], [109, 97, 114, 107], [103, 111], [116, 117, 114, 110], [114, 101, 115, 116], [116], [97], [98], [110, 111, 116, 104, 105, 110, 103]]
theorem menu_eq : [D.str "left", D.str "right", D.str "steps", D.str "fill", D.str "gap", D.str "span", D.str "mark", D.str "go", D.str "turn", D.str "rest", D.str "t", D.str "a", D.str "b", D.str "nothing"] = menuN.map fun w => D.str (sL w) := by kernel_rfl
theorem menu_sm : ∀ w ∈ menuN, sm8 w ∧ 1 ≤ w.length ∧ w.length ≤ 8 := by unfold sm8; decide
theorem menu_nd : (menuN.map sL).Nodup := by
  refine List.pairwise_map.mpr ((show menuN.Nodup by decide).imp ?_)
  intro a b ne e
  have := congrArg (fun s : Str => s.cps.toList) e
  simp only [sL_tx] at this
  exact ne this
theorem wl_wd4 (n : D) (s2 s3 s5 s7 s8 s11 s12 s13 s14 : Sl) (base : List Nat) (b1 : 1 ≤ base.length) (b5 : base.length ≤ 5) (sb : sm8 base) (cs : List MC) : ∀ (ws : List (List Nat)) (acc : List Str) (s10 : Sl) (m : Int) (Q : Fl → Rho → Zs → Prop) (X : Er → Rho → Zs → Prop), (∀ w ∈ ws, sm8 w ∧ w.length ≤ 8) → (∀ a ∈ acc, nmOk a) → acc.length + ws.length ≤ 1000 → m + ws.length < 10 ^ 14 →
    (∀ (gs : List Str) m' s10, gs.length = acc.length + ws.length → (∀ a ∈ gs, nmOk a) → m' ≤ m + ws.length → Q .nx [Sl.fr .cel, Sl.fr n, s2, s3, Sl.own (gs.map .str), s5, Sl.fr (.str "abcdefghijklmnopqrstuvwxyz"), s7, s8, Sl.fr (.str (sL base)), s10, s11, s12, s13, s14, Sl.no] ⟨m', cs⟩) →
    forL (gN 10) p1__law_words (ws.map fun w => D.str (sL w)) [Sl.fr .cel, Sl.fr n, s2, s3, Sl.own (acc.map .str), s5, Sl.fr (.str "abcdefghijklmnopqrstuvwxyz"), s7, s8, Sl.fr (.str (sL base)), s10, s11, s12, s13, s14, Sl.no] Q X ⟨m, cs⟩ := by
  intro ws
  induction ws with
  | nil => intro acc s10 m Q X _ ha _ _ h; simpa using h acc m s10 (by simp) ha (by simp)
  | cons w ws ih =>
    intro acc s10 m Q X hw ha hl hm h
    simp only [List.map_cons, forL_cons, List.length_cons] at hl hm h ⊢
    simp
    rw [p1__law_words]
    simp
    obtain ⟨w1, w2⟩ := hw w List.mem_cons_self
    have e3 := slice_take w 3 (by omega)
    simp only [e3]
    simp only [sL_app, sL_len]
    have sw : sm8 (w.take (3 : Int).toNat) := fun x hx => w1 x (List.mem_of_mem_take hx)
    have lw : (w.take (3 : Int).toNat).length ≤ 3 := by
      rw [List.length_take]
      show min 3 w.length ≤ 3
      omega
    generalize w.take (3 : Int).toNat = u at *
    refine ⟨by omega, by omega, by omega, by omega, ?_⟩
    refine w__law_coin 2 _ _ _ (by omega) (by omega) (by show m < _; omega) fun c m1 c0 c1 (hm1 : m1 ≤ m + 1) => ?_
    refine pk (fun d => ∃ a, d = .str a ∧ nmOk a) c0 (by simpa using c1) ?_ ?_
    · have s1 : sm8 (u ++ base) := fun x hx => by
        rcases List.mem_append.mp hx with h1 | h1
        · exact sw x h1
        · exact sb x h1
      have s2 : sm8 (base ++ u) := fun x hx => by
        rcases List.mem_append.mp hx with h1 | h1
        · exact sb x h1
        · exact sw x h1
      intro d hd
      simp only [List.mem_cons, List.not_mem_nil, or_false] at hd
      rcases hd with rfl | rfl
      · exact ⟨_, rfl, nm_sL s1 (by simp; omega) (by simp; omega)⟩
      · exact ⟨_, rfl, nm_sL s2 (by simp; omega) (by simp; omega)⟩
    rintro d ⟨a, rfl, an⟩
    simp
    refine ⟨by omega, ?_⟩
    have em : acc.map D.str ++ [D.str a] = (acc ++ [a]).map D.str := by rw [List.map_append]; rfl
    rw [em]
    refine ih (acc ++ [a]) _ m1 Q X (fun v hv => hw v (List.mem_cons_of_mem _ hv)) (fun b hb => ?_) (by simp; omega) (by omega) fun gs m' t k1 k2 k3 => h gs m' t (by simp at k1; omega) k2 (by omega)
    rcases List.mem_append.mp hb with h1 | h1
    · exact ha b h1
    · rw [List.mem_singleton.mp h1]; exact an
end LW

namespace LW
open PySem PySem.Spec PyProof.Rows L2 DL
abbrev menuD : D := .lst (menuN.map fun w => .str (sL w))
theorem w_wd4 (n : Nat) (n1 : 1 ≤ n) (n9 : n ≤ 14) (stem : List Nat) (hs : stem.length = 8) (sm : sm8 stem) (gs : List Str) (hg : gs = [] ∨ gs.length = n) (gn : ∀ a ∈ gs, nmOk a) (s5 s8 s9 s10 s11 s12 s13 s14 : Sl) (c m : Int) (cs : List MC) (hm : m < 10 ^ 12) (Q : List D → Zs → Prop) (X : Er → Rho → Zs → Prop)
    (h : ∀ (ls : List Str) m', ls.length = n → ls.Nodup → (∀ a ∈ ls, nmOk a) → m' ≤ m + 30 → Q (ls.map .str) ⟨m', cs⟩) : wd_4 [Sl.fr .cel, Sl.fr (.int n), Sl.fr menuD, Sl.fr (.str (sL stem)), Sl.own (gs.map .str), s5, Sl.fr (.str "abcdefghijklmnopqrstuvwxyz"), Sl.fr (.int c), s8, s9, s10, s11, s12, s13, s14, Sl.no] (outO Q) X ⟨m, cs⟩ := by
  unfold wd_4
  simp
  refine ⟨fun _ => ?_, fun _ => w_wd5 n n1 n9 stem hs sm gs hg gn _ _ _ _ _ _ _ _ _ _ m cs (by omega) Q X fun ls m' a b c d => h ls m' a b c (by omega)⟩
  refine w__law_coin 5 _ _ _ (by omega) (by omega) (by show m < _; omega) fun c2 m1 c20 c21 (hm1 : m1 ≤ m + 1) => ?_
  simp
  have e3 := slice_take stem (1 + c2) (by omega)
  simp only [e3]
  refine ⟨by rw [sL_len]; omega, ?_⟩
  have sb : sm8 (stem.take (1 + c2).toNat) := fun x hx => sm x (List.mem_of_mem_take hx)
  have b1 : 1 ≤ (stem.take (1 + c2).toNat).length := by rw [List.length_take]; omega
  have b5 : (stem.take (1 + c2).toNat).length ≤ 5 := by rw [List.length_take]; omega
  generalize stem.take (1 + c2).toNat = base at *
  have e0 : [D.str (sL base)] = [sL base].map D.str := rfl
  rw [e0]
  refine wl_wd4 _ _ _ _ _ _ _ _ _ _ base b1 b5 sb cs menuN [sL base] _ m1 _ _ (fun w hw => ⟨(menu_sm w hw).1, (menu_sm w hw).2.2⟩) (fun a ha => by rw [List.mem_singleton.mp ha]; exact nm_sL sb b1 (by omega)) (by show 1 + 14 ≤ 1000; omega) (by show m1 + (14 : Nat) < _; omega) fun fs m2 t k1 k2 (k3 : m2 ≤ m1 + (14 : Nat)) => ?_
  have k1 : fs.length = 15 := k1
  simp
  rw [cutD_take _ _ (by omega)]
  have e4 : (fs.map D.str).take (n : Int).toNat = (fs.take n).map D.str := by rw [List.map_take]; rfl
  rw [e4]
  exact w_wd5 n n1 n9 stem hs sm (fs.take n) (.inr (by rw [List.length_take]; omega)) (fun a ha => k2 a (List.mem_of_mem_take ha)) _ _ _ _ _ _ _ _ _ _ m2 cs (by omega) Q X fun ls m' a b c d => h ls m' a b c (by omega)
theorem wl_wd3 (n : D) (s2 s3 s7 s8 s9 s10 s11 s12 s13 : Sl) (cs : List MC) : ∀ (k i : Nat) (acc : List Str) (s5 s14 : Sl) (m : Int) (Q : Fl → Rho → Zs → Prop) (X : Er → Rho → Zs → Prop), (∀ a ∈ acc, nmOk a) → acc.length + k ≤ 1000 → m + 9 * k < 10 ^ 13 →
    (∀ (gs : List Str) m' s5 s14, gs.length = acc.length + k → (∀ a ∈ gs, nmOk a) → m' ≤ m + 9 * k → Q .nx [Sl.fr .cel, Sl.fr n, s2, s3, Sl.own (gs.map .str), s5, Sl.fr (.str "abcdefghijklmnopqrstuvwxyz"), s7, s8, s9, s10, s11, s12, s13, s14, Sl.no] ⟨m', cs⟩) →
    forL (gN 5) p3__law_words (rngD (i : Int) k) [Sl.fr .cel, Sl.fr n, s2, s3, Sl.own (acc.map .str), s5, Sl.fr (.str "abcdefghijklmnopqrstuvwxyz"), s7, s8, s9, s10, s11, s12, s13, s14, Sl.no] Q X ⟨m, cs⟩ := by
  intro k
  induction k with
  | zero => intro i acc s5 s14 m Q X ha _ _ h; simpa [rngD] using h acc m s5 s14 rfl ha (by omega)
  | succ k ih =>
    intro i acc s5 s14 m Q X ha hl hm h
    simp only [rngD, forL_cons]
    simp
    rw [p3__law_words]
    simp
    refine w__law_coin 8 _ _ _ (by omega) (by omega) (by show m < _; omega) fun c m1 c0 c1 (hm1 : m1 ≤ m + 1) => ?_
    simp
    refine ⟨by omega, ?_⟩
    simp only [wipeR, List.set_cons_zero, List.set_cons_succ]
    refine lc_lets _ _ _ _ _ _ _ _ _ _ _ _ _ cs p2__law_words (fun ρ Q X z => rfl) (1 + c).toNat 0 [] m1 _ _ (by simp; omega) (fun x hx => nomatch hx) (by omega) fun ls m2 k1 k2 k3 => ?_
    simp at k1
    refine join_ok ls (by omega) _ ?_
    simp
    refine ⟨by omega, ?_⟩
    have em : acc.map D.str ++ [D.str (sL ls)] = (acc ++ [sL ls]).map D.str := by rw [List.map_append]; rfl
    rw [em]
    refine ih (i + 1) (acc ++ [sL ls]) _ _ m2 Q X (fun b hb => ?_) (by simp; omega) (by omega) fun gs m' t u j1 j2 j3 => h gs m' t u (by simp at j1; omega) j2 (by omega)
    rcases List.mem_append.mp hb with h1 | h1
    · exact ha b h1
    · rw [List.mem_singleton.mp h1]; exact nm_sL k2 (by omega) (by omega)
theorem w_wd3 (n : Nat) (n1 : 1 ≤ n) (n9 : n ≤ 14) (stem : List Nat) (hs : stem.length = 8) (sm : sm8 stem) (s5 s8 s9 s10 s11 s12 s13 s14 : Sl) (c m : Int) (cs : List MC) (hm : m < 10 ^ 11) (Q : List D → Zs → Prop) (X : Er → Rho → Zs → Prop)
    (h : ∀ (ls : List Str) m', ls.length = n → ls.Nodup → (∀ a ∈ ls, nmOk a) → m' ≤ m + 200 → Q (ls.map .str) ⟨m', cs⟩) : wd_3 [Sl.fr .cel, Sl.fr (.int n), Sl.fr menuD, Sl.fr (.str (sL stem)), Sl.own [], s5, Sl.fr (.str "abcdefghijklmnopqrstuvwxyz"), Sl.fr (.int c), s8, s9, s10, s11, s12, s13, s14, Sl.no] (outO Q) X ⟨m, cs⟩ := by
  unfold wd_3
  simp
  refine ⟨fun _ => ⟨by omega, ?_⟩, fun _ => w_wd4 n n1 n9 stem hs sm [] (.inl rfl) (fun a ha => nomatch ha) _ _ _ _ _ _ _ _ c m cs (by omega) Q X fun ls m' a b c d => h ls m' a b c (by omega)⟩
  refine wl_wd3 _ _ _ _ _ _ _ _ _ _ cs n 0 [] _ _ m _ _ (fun a ha => nomatch ha) (by simp; omega) (by omega) fun gs m2 t5 t14 k1 k2 k3 => ?_
  simp at k1
  simp
  exact w_wd4 n n1 n9 stem hs sm gs (.inr k1) k2 _ _ _ _ _ _ _ _ c m2 cs (by omega) Q X fun ls m' a b c d => h ls m' a b c (by omega)
end LW

namespace LW
open PySem PySem.Spec PyProof.Rows L2 DL
theorem rngD_map : ∀ (n : Nat) (a : Int), rngD a n = (List.range n).map fun i : Nat => D.int (a + i) := by
  intro n
  induction n with
  | zero => intro a; rfl
  | succ n ih =>
    intro a
    rw [List.range_succ_eq_map]
    simp only [rngD, List.map_cons, List.map_map, ih]
    congr 1
    · simp
    · apply List.map_congr_left
      intro i _
      simp only [Function.comp]
      congr 1
      omega
theorem rngD0 (n : Nat) : rngD 0 n = (List.range n).map fun i : Nat => D.int i := by
  rw [rngD_map]
  apply List.map_congr_left
  intro i _
  rw [Int.zero_add]
def wM (st r : Nat) : Str := (menuN.map sL).getD ((st + 3 * r) % 14) (sL [])
theorem wM_get (st r : Nat) : ∃ h : (st + 3 * r) % 14 < (menuN.map sL).length, wM st r = (menuN.map sL)[(st + 3 * r) % 14] := by
  have h : (st + 3 * r) % 14 < (menuN.map sL).length := by show _ < 14; omega
  exact ⟨h, by unfold wM; rw [List.getD_eq_getElem?_getD, List.getElem?_eq_getElem h]; rfl⟩
theorem wM_nm (st r : Nat) : nmOk (wM st r) := by
  obtain ⟨h, e⟩ := wM_get st r
  rw [e]
  obtain ⟨w, hw, e2⟩ := List.mem_map.mp (List.getElem_mem h)
  rw [← e2]
  obtain ⟨a, b, c⟩ := menu_sm w hw
  exact nm_sL a b c
theorem wM_nd (st n : Nat) (hn : n ≤ 14) : ((List.range n).map (wM st)).Nodup := by
  refine List.pairwise_map.mpr (List.nodup_range.imp_of_mem ?_)
  intro a b ha hb ne e
  have ha := List.mem_range.mp ha
  have hb := List.mem_range.mp hb
  obtain ⟨h1, e1⟩ := wM_get st a
  obtain ⟨h2, e2⟩ := wM_get st b
  rw [e1, e2] at e
  have pw := List.pairwise_iff_getElem.mp menu_nd
  rcases Nat.lt_trichotomy ((st + 3 * a) % 14) ((st + 3 * b) % 14) with k | k | k
  · exact pw _ _ h1 h2 k e
  · omega
  · exact pw _ _ h2 h1 k e.symm
theorem wS_nd (stem : List Nat) (hs : stem.length = 8) (st n : Nat) (hn : st + n ≤ 8) : ((List.range n).map fun r => sL (stem.take (st + r + 1))).Nodup := by
  refine List.pairwise_map.mpr (List.nodup_range.imp_of_mem ?_)
  intro a b ha hb ne e
  have ha := List.mem_range.mp ha
  have hb := List.mem_range.mp hb
  have := congrArg Str.length e
  simp only [sL_len, List.length_take, hs] at this
  omega
theorem w__law_words (n : Nat) (n1 : 1 ≤ n) (n9 : n ≤ 14) (Q : List D → Zs → Prop) (X : Er → Zs → Prop) (z : Zs) (hz : z.n < 10 ^ 10) (h : ∀ (ls : List Str) m, ls.length = n → ls.Nodup → (∀ a ∈ ls, nmOk a) → m ≤ z.n + 1000 → Q (ls.map .str) { z with n := m }) : m__law_words [.cel, .int n] Q X z := by
  rw [me__law_words, words_split]
  simp
  refine w__law_coin 5 _ _ _ (by omega) (by omega) (by omega) fun c m1 c0 c1 (hm1 : m1 ≤ z.n + 1) => ?_
  simp only [wipeR, List.set_cons_zero, List.set_cons_succ]
  refine lc_lets _ _ _ _ _ _ _ _ _ _ _ _ _ z.cs p6__law_words (fun ρ Q X z => rfl) 8 0 [] m1 _ _ (by simp) (fun x hx => nomatch hx) (by omega) fun stem m2 k1 sm k3 => ?_
  have hs : stem.length = 8 := by simpa using k1
  refine join_ok stem (by omega) _ ?_
  rw [menu_eq]
  have rest : ∀ (s8 : Sl), wd_3 [Sl.fr .cel, Sl.fr (.int n), Sl.fr menuD, Sl.fr (.str (sL stem)), Sl.own [], Sl.no, Sl.fr (.str "abcdefghijklmnopqrstuvwxyz"), Sl.fr (.int c), s8, Sl.no, Sl.no, Sl.no, Sl.no, Sl.no, Sl.no, Sl.no] (outO Q) (fun e x z => X e z) ⟨m2, z.cs⟩ := fun s8 =>
    w_wd3 n n1 n9 stem hs sm _ _ _ _ _ _ _ _ c m2 z.cs (by omega) Q _ fun ls m' a b d e => h ls m' a b d (by omega)
  simp
  refine ⟨fun _ => ⟨fun _ => ?_, fun k => absurd k (by omega)⟩, fun _ => ⟨fun _ => ⟨fun _ => ?_, fun k => ?_⟩, fun _ => ?_⟩⟩
  · refine w__law_coin 14 _ _ _ (by omega) (by omega) (by show m2 < _; omega) fun st m3 st0 st1 (hm3 : m3 ≤ m2 + 1) => ?_
    simp
    refine ⟨by omega, ?_⟩
    obtain ⟨st, rfl⟩ := Int.eq_ofNat_of_zero_le st0
    rw [rngD0]
    refine lc_run 5 _ (fun i : Nat => D.int i) (fun i => .str (wM st i)) (fun d => rfl) _ _ (List.range n) [] _ _ (fun i hi Q' hQ => ?_) (by simp; omega) ?_
    · simp only [List.set_cons_zero, List.set_cons_succ] at hQ
      rw [p5__law_words]
      have e1 : ((st : Int) + 3 * (0 + (i : Int))).fmod 14 = (((st + 3 * i) % 14 : Nat) : Int) := by rw [Int.fmod_eq_emod_of_nonneg _ (by omega)]; omega
      have e1' : ((st : Int) + 3 * (i : Int)).fmod 14 = (((st + 3 * i) % 14 : Nat) : Int) := by rw [Int.fmod_eq_emod_of_nonneg _ (by omega)]; omega
      have l14 : Nat.log2 14 < 9000 := by decide +kernel
      have mc : MulC 3 (i : Int) := mulC_l (by omega)
      simp [e1', l14, mc]
      obtain ⟨h1, e2⟩ := wM_get st i
      rw [e2] at hQ
      have h3 : (st + 3 * i) % 14 < (menuN.map fun w => D.str (sL w)).length := by show _ < 14; omega
      have k := atI_nat (menuN.map fun w => D.str (sL w)) ((st + 3 * i) % 14) h3
      refine ⟨_, ?_, hQ⟩
      have k2 : (((st + 3 * i) % 14 : Nat) : Int) = ((st : Int) + 3 * i) % 14 := by omega
      rw [← k2, k]
      simp
    · have := h ((List.range n).map (wM st)) m3 (by simp) (wM_nd st n n9) (fun a ha => by obtain ⟨r, _, rfl⟩ := List.mem_map.mp ha; exact wM_nm st r) (by omega)
      rw [List.map_map] at this
      exact this
  · refine w__law_coin _ _ _ _ (by omega) (by omega) (by show m2 < _; omega) fun st m3 st0 st1 (hm3 : m3 ≤ m2 + 1) => ?_
    refine ⟨by omega, ?_⟩
    obtain ⟨st, rfl⟩ := Int.eq_ofNat_of_zero_le st0
    rw [rngD0]
    refine lc_run 5 _ (fun i : Nat => D.int i) (fun i => .str (sL (stem.take (st + i + 1)))) (fun d => rfl) _ _ (List.range n) [] _ _ (fun i hi Q' hQ => ?_) (by simp; omega) ?_
    · simp only [List.set_cons_zero, List.set_cons_succ] at hQ
      rw [p4__law_words]
      have e3 := slice_take stem ((st : Int) + i + 1) (by omega)
      have e4 : ((st : Int) + i + 1).toNat = st + i + 1 := by omega
      simp [e3, e4]
      exact ⟨by rw [sL_len]; omega, hQ⟩
    · have := h ((List.range n).map fun r => sL (stem.take (st + r + 1))) m3 (by simp) (wS_nd stem hs st n (by omega)) (fun a ha => by
        obtain ⟨r, hr, rfl⟩ := List.mem_map.mp ha
        exact nm_sL (fun x hx => sm x (List.mem_of_mem_take hx)) (by rw [List.length_take]; omega) (by rw [List.length_take]; omega)) (by omega)
      rw [List.map_map] at this
      exact this
  · exact rest _
  · exact rest _
end LW

namespace LW
open PySem PySem.Spec PyProof.Rows L2 DL
/-! ## k88, plain: runs at openings between two with the same counts and end -/
def Dd.nspn : Dd → Prop
  | .span _ _ => False
  | _ => True
/-- the line at the end, how it ended, where, why -/
def run3 (L : Ln) : Nat → List Dd → Ln × Str × Nat × D
  | i, [] => (L, ("done" : Str), i, D.str "")
  | i, d :: ds => match L.why d with
    | some y => (L, ("failed" : Str), i, y)
    | none => if L.isOver d = true then (L.done d, ("over" : Str), i, D.str "") else run3 (L.done d) (i + 1) ds
theorem run3_bad {L : Ln} {i : Nat} {d : Dd} {ds : List Dd} {y : D} (h : L.why d = some y) : run3 L i (d :: ds) = (L, ("failed" : Str), i, y) := by
  rw [run3, h]
theorem run3_over {L : Ln} {i : Nat} {d : Dd} {ds : List Dd} (h : L.why d = none) (o : L.isOver d = true) : run3 L i (d :: ds) = (L.done d, ("over" : Str), i, D.str "") := by
  rw [run3, h]
  simp only
  rw [if_pos o]
theorem run3_on {L : Ln} {i : Nat} {d : Dd} {ds : List Dd} (h : L.why d = none) (o : L.isOver d = false) : run3 L i (d :: ds) = run3 (L.done d) (i + 1) ds := by
  rw [run3, h]
  simp only
  rw [if_neg (by rw [o]; exact Bool.false_ne_true)]
theorem run3_where : ∀ (ds : List Dd) (i : Nat) (L : Ln), i ≤ (run3 L i ds).2.2.1 := by
  intro ds
  induction ds with
  | nil => intro i L; exact Nat.le_refl _
  | cons d ds ih =>
    intro i L
    cases h : L.why d with
    | some y => rw [run3_bad h]; exact Nat.le_refl _
    | none =>
      cases o : L.isOver d with
      | true => rw [run3_over h o]; exact Nat.le_refl _
      | false => rw [run3_on h o]; have := ih (i + 1) (L.done d); omega
theorem done_csA (L : Ln) (d : Dd) : (L.done d).cs = L.cs ++ (match d with | .fill n => [L.cnt n] | _ => []) := by
  cases d <;> simp [Ln.done, Ln.mv]
theorem run3_cs : ∀ (ds : List Dd) (i : Nat) (L : Ln), ∃ l, (run3 L i ds).1.cs = L.cs ++ l := by
  intro ds
  induction ds with
  | nil => intro i L; exact ⟨[], by simp [run3]⟩
  | cons d ds ih =>
    intro i L
    cases h : L.why d with
    | some y => rw [run3_bad h]; exact ⟨[], by simp⟩
    | none =>
      cases o : L.isOver d with
      | true => rw [run3_over h o]; exact ⟨_, done_csA L d⟩
      | false =>
        rw [run3_on h o]
        obtain ⟨l, e⟩ := ih (i + 1) (L.done d)
        rw [e, done_csA, List.append_assoc]
        exact ⟨_, rfl⟩
/-- what is compared -/
def ky (r : Ln × Str × Nat × D) : List Int × Str × Nat × PyData := (r.1.cs, r.2.1, r.2.2.1, r.2.2.2.py)
abbrev Tm := Str × Int × Int × Int
structure Mix (u v w : Int) (A B C : Ln) : Prop where
  u0 : 0 ≤ u
  v0 : 0 ≤ v
  w1 : 0 < w
  o : w * C.o = u * A.o + v * B.o
  p : w * C.p = u * A.p + v * B.p
  b : w * C.b = u * A.b + v * B.b
  r : A.r = C.r ∧ B.r = C.r
  cs : A.cs = C.cs ∧ B.cs = C.cs
  ms : ∃ T : List Tm, A.ms = T.map (fun t => (t.1, t.2.1)) ∧ B.ms = T.map (fun t => (t.1, t.2.2.1)) ∧ C.ms = T.map (fun t => (t.1, t.2.2.2)) ∧ ∀ t ∈ T, w * t.2.2.2 = u * t.2.1 + v * t.2.2.1
theorem Mix.room {u v w : Int} {A B C : Ln} (h : Mix u v w A B C) : w * C.room = u * A.room + v * B.room := by
  unfold Ln.room
  rw [h.r.1, h.r.2]
  have p := h.p
  have b := h.b
  split
  · rw [Int.mul_sub, Int.mul_sub, Int.mul_sub]; omega
  · exact p
theorem mix_pos {u v w x y z : Int} (u0 : 0 ≤ u) (v0 : 0 ≤ v) (w1 : 0 < w) (uv : 0 < u + v) (e : w * z = u * x + v * y) (hx : 0 < x) (hy : 0 < y) : 0 < z := by
  refine Classical.byContradiction fun n => ?_
  have h1 : w * z ≤ 0 := by
    have := Int.mul_nonneg (show 0 ≤ w by omega) (show 0 ≤ -z by omega)
    rw [Int.mul_neg] at this
    omega
  have hu : u ≤ u * x := by
    have := Int.mul_nonneg u0 (show 0 ≤ x - 1 by omega)
    rw [Int.mul_sub] at this
    omega
  have hv : v ≤ v * y := by
    have := Int.mul_nonneg v0 (show 0 ≤ y - 1 by omega)
    rw [Int.mul_sub] at this
    omega
  omega
theorem mix_nn {u v w x y z : Int} (u0 : 0 ≤ u) (v0 : 0 ≤ v) (w1 : 0 < w) (e : w * z = u * x + v * y) (hx : 0 ≤ x) (hy : 0 ≤ y) : 0 ≤ z := by
  refine Classical.byContradiction fun n => ?_
  have h1 : w * z < 0 := by
    have := Int.mul_pos w1 (show 0 < -z by omega)
    rw [Int.mul_neg] at this
    omega
  have := Int.mul_nonneg u0 hx
  have := Int.mul_nonneg v0 hy
  omega
theorem mix_zero {u v w x y z : Int} (w1 : 0 < w) (e : w * z = u * x + v * y) (hx : x = 0) (hy : y = 0) : z = 0 := by
  rw [hx, hy, Int.mul_zero, Int.mul_zero] at e
  rcases Int.mul_eq_zero.mp e with e | e <;> omega
theorem Mix.uv {u v w : Int} {A B C : Ln} (h : Mix u v w A B C) (hc : C.Ok) : 0 < u + v := by
  refine Classical.byContradiction fun n => ?_
  have u0 := h.u0
  have v0 := h.v0
  have b1 := hc.b1
  have b := h.b
  have e1 : u = 0 := by omega
  have e2 : v = 0 := by omega
  rw [e1, e2, Int.zero_mul, Int.zero_mul] at b
  have := Int.mul_pos h.w1 (show 0 < C.b by omega)
  omega
theorem lkm_T (f : Tm → Int) (a : Str) : ∀ T : List Tm, lkm (T.map fun t => (t.1, f t)) a = (T.find? fun t => a == t.1).map f
  | [] => rfl
  | t :: T => by
    have ih := lkm_T f a T
    unfold lkm at ih ⊢
    rw [List.map_cons, List.lookup_cons, List.find?_cons]
    cases e : a == t.1 with
    | true => rfl
    | false => exact ih
theorem putM_T (f : Tm → Int) (a : Str) (x y z : Int) (T : List Tm) (e : ∀ t : Tm, f (t.1, x, y, z) = f (a, x, y, z)) : putM (T.map fun t => (t.1, f t)) a (f (a, x, y, z)) = (if (T.any fun t => decide (t.1 = a)) = true then T.map (fun t => if t.1 = a then (t.1, x, y, z) else t) else T ++ [(a, x, y, z)]).map fun t => (t.1, f t) := by
  unfold putM
  have ea : ((T.map fun t => (t.1, f t)).any fun q => decide (q.1 = a)) = T.any fun t => decide (t.1 = a) := by
    rw [List.any_map]; rfl
  rw [ea]
  split
  · rw [List.map_map, List.map_map]
    refine List.map_congr_left fun t _ => ?_
    simp only [Function.comp]
    split
    · rw [e t]
    · rfl
  · simp
theorem cnt_iff {L : Ln} (h : L.Ok) {n : Int} (n0 : 0 ≤ n) (c : Int) : L.cnt n = c ↔ c * L.o ≤ L.room ∧ c ≤ n ∧ (c = n ∨ L.room < (c + 1) * L.o) := by
  have o1 := h.o1
  have l1 := Int.ediv_mul_le L.room (show L.o ≠ 0 by omega)
  have l2 := Int.lt_ediv_add_one_mul_self L.room (show 0 < L.o by omega)
  have mono : ∀ x y : Int, x ≤ y → x * L.o ≤ y * L.o := fun x y k => Int.mul_le_mul_of_nonneg_right k (by omega)
  unfold Ln.cnt
  generalize L.room / L.o = q at l1 l2 ⊢
  constructor
  · intro e
    split at e
    · subst e; exact ⟨l1, by omega, .inr l2⟩
    · subst e
      have := mono n q (by omega)
      exact ⟨by omega, Int.le_refl _, .inl rfl⟩
  · rintro ⟨h1, h2, h3⟩
    have cq : c ≤ q := by
      refine Classical.byContradiction fun k => ?_
      have := mono (q + 1) c (by omega)
      omega
    rcases h3 with h3 | h3
    · subst h3; split <;> omega
    · have qc : q ≤ c := by
        refine Classical.byContradiction fun k => ?_
        have := mono (c + 1) q (by omega)
        omega
      have : q = c := by omega
      subst this
      split <;> omega
theorem Mix.cnt {u v w : Int} {A B C : Ln} (h : Mix u v w A B C) (ha : A.Ok) (hb : B.Ok) (hc : C.Ok) {n c : Int} (n0 : 0 ≤ n) (e1 : A.cnt n = c) (e2 : B.cnt n = c) : C.cnt n = c := by
  obtain ⟨a1, a2, a3⟩ := (cnt_iff ha n0 c).mp e1
  obtain ⟨b1, b2, b3⟩ := (cnt_iff hb n0 c).mp e2
  have rm := h.room
  have ho := h.o
  refine (cnt_iff hc n0 c).mpr ⟨?_, a2, ?_⟩
  · have := mix_nn (x := A.room - c * A.o) (y := B.room - c * B.o) (z := C.room - c * C.o) h.u0 h.v0 h.w1 (by
      rw [Int.mul_sub, Int.mul_sub, Int.mul_sub, rm]
      have x1 : w * (c * C.o) = c * (w * C.o) := by rw [Int.mul_left_comm]
      have x2 : u * (c * A.o) = c * (u * A.o) := by rw [Int.mul_left_comm]
      have x3 : v * (c * B.o) = c * (v * B.o) := by rw [Int.mul_left_comm]
      rw [x1, x2, x3, ho, Int.mul_add]
      omega) (by omega) (by omega)
    omega
  · by_cases k : c = n
    · exact .inl k
    · have a3 := a3.resolve_left k
      have b3 := b3.resolve_left k
      right
      have := mix_pos (x := (c + 1) * A.o - A.room) (y := (c + 1) * B.o - B.room) (z := (c + 1) * C.o - C.room) h.u0 h.v0 h.w1 (h.uv hc) (by
        rw [Int.mul_sub, Int.mul_sub, Int.mul_sub, rm]
        have x1 : w * ((c + 1) * C.o) = (c + 1) * (w * C.o) := by rw [Int.mul_left_comm]
        have x2 : u * ((c + 1) * A.o) = (c + 1) * (u * A.o) := by rw [Int.mul_left_comm]
        have x3 : v * ((c + 1) * B.o) = (c + 1) * (v * B.o) := by rw [Int.mul_left_comm]
        rw [x1, x2, x3, ho, Int.mul_add]
        omega) (by omega) (by omega)
      omega
theorem Mix.why {u v w : Int} {A B C : Ln} (h : Mix u v w A B C) (ha : A.Ok) (hb : B.Ok) (hc : C.Ok) (d : Dd) (hd : d.nspn) : (∀ y y', A.why d = some y → B.why d = some y' → C.why d = some y) ∧ (A.why d = none → B.why d = none → C.why d = none) := by
  have rm := h.room
  have ho := h.o
  have uv := h.uv hc
  cases d with
  | steps n =>
    have e : w * (n * C.o - C.room) = u * (n * A.o - A.room) + v * (n * B.o - B.room) := by
      rw [Int.mul_sub, Int.mul_sub, Int.mul_sub, rm]
      have x1 : w * (n * C.o) = n * (w * C.o) := by rw [Int.mul_left_comm]
      have x2 : u * (n * A.o) = n * (u * A.o) := by rw [Int.mul_left_comm]
      have x3 : v * (n * B.o) = n * (v * B.o) := by rw [Int.mul_left_comm]
      rw [x1, x2, x3, ho, Int.mul_add]
      omega
    simp only [Ln.why]
    constructor
    · intro y y' h1 h2
      split at h1
      · split at h2
        · have := mix_pos h.u0 h.v0 h.w1 uv e (by omega) (by omega)
          rw [if_pos (by omega)]
          exact h1
        · cases h2
      · cases h1
    · intro h1 h2
      split at h1
      · cases h1
      · split at h2
        · cases h2
        · have := mix_nn (x := A.room - n * A.o) (y := B.room - n * B.o) (z := C.room - n * C.o) h.u0 h.v0 h.w1 (by
            have n1 : w * (C.room - n * C.o) = -(w * (n * C.o - C.room)) := by rw [← Int.mul_neg]; congr 1; omega
            have n2 : u * (A.room - n * A.o) = -(u * (n * A.o - A.room)) := by rw [← Int.mul_neg]; congr 1; omega
            have n3 : v * (B.room - n * B.o) = -(v * (n * B.o - B.room)) := by rw [← Int.mul_neg]; congr 1; omega
            omega) (by omega) (by omega)
          rw [if_neg (by omega)]
  | gap =>
    simp only [Ln.why]
    constructor
    · intro y y' h1 h2
      split at h1
      · split at h2
        · rw [if_pos (mix_zero h.w1 rm (by assumption) (by assumption))]
          exact h1
        · cases h2
      · cases h1
    · intro h1 h2
      have ra := ha.rm
      have rb := hb.rm
      split at h1
      · cases h1
      · split at h2
        · cases h2
        · have := mix_pos h.u0 h.v0 h.w1 uv rm (by omega) (by omega)
          rw [if_neg (by omega)]
  | go a =>
    obtain ⟨T, e1, e2, e3, _⟩ := h.ms
    simp only [Ln.why]
    rw [e1, e2, e3, lkm_T (fun t => t.2.1) a T, lkm_T (fun t => t.2.2.1) a T, lkm_T (fun t => t.2.2.2) a T]
    cases T.find? fun t => a == t.1 with
    | none => exact ⟨fun y y' h1 h2 => h1, fun h1 h2 => nomatch h1⟩
    | some t => exact ⟨(fun y y' h1 h2 => nomatch h1), fun h1 h2 => rfl⟩
  | span a c => exact hd.elim
  | _ => exact ⟨(fun y y' h1 h2 => nomatch h1), fun h1 h2 => rfl⟩
theorem Mix.over {u v w : Int} {A B C : Ln} (h : Mix u v w A B C) (ha : A.Ok) (hb : B.Ok) (hc : C.Ok) (d : Dd) (e : A.isOver d = B.isOver d) : C.isOver d = A.isOver d := by
  have rm := h.room
  have ra := ha.rm
  have rb := hb.rm
  have uv := h.uv hc
  cases d with
  | rest =>
    simp only [Ln.isOver] at e ⊢
    by_cases k : A.room = 0
    · have k2 : B.room = 0 := by
        rw [decide_eq_true k] at e
        exact of_decide_eq_true e.symm
      rw [decide_eq_true k, decide_eq_true (mix_zero h.w1 rm k k2)]
    · have k2 : B.room ≠ 0 := by
        rw [decide_eq_false k] at e
        exact of_decide_eq_false e.symm
      have := mix_pos h.u0 h.v0 h.w1 uv rm (by omega) (by omega)
      rw [decide_eq_false k, decide_eq_false (by omega)]
  | _ => rfl
theorem Mix.mv {u v w : Int} {A B C : Ln} (h : Mix u v w A B C) (k : Int) : Mix u v w (A.mv k) (B.mv k) (C.mv k) := by
  refine ⟨h.u0, h.v0, h.w1, h.o, ?_, h.b, h.r, h.cs, h.ms⟩
  show w * (C.p + (if C.r = true then k else -k) * C.o) = u * (A.p + (if A.r = true then k else -k) * A.o) + v * (B.p + (if B.r = true then k else -k) * B.o)
  rw [h.r.1, h.r.2]
  generalize (if C.r = true then k else -k) = t
  have o := h.o
  have p := h.p
  rw [Int.mul_add, Int.mul_add, Int.mul_add]
  have x1 : w * (t * C.o) = t * (w * C.o) := by rw [Int.mul_left_comm]
  have x2 : u * (t * A.o) = t * (u * A.o) := by rw [Int.mul_left_comm]
  have x3 : v * (t * B.o) = t * (v * B.o) := by rw [Int.mul_left_comm]
  rw [x1, x2, x3, o, Int.mul_add]
  omega
theorem Mix.done {u v w : Int} {A B C : Ln} (h : Mix u v w A B C) (ha : A.Ok) (hb : B.Ok) (hc : C.Ok) (d : Dd) (hd : d.Ok) (ns : d.nspn) (hcnt : ∀ n, d = .fill n → A.cnt n = B.cnt n) (hw : A.why d = none) : Mix u v w (A.done d) (B.done d) (C.done d) := by
  have rm := h.room
  cases d with
  | left => exact ⟨h.u0, h.v0, h.w1, h.o, by simp [Ln.done], h.b, ⟨rfl, rfl⟩, h.cs, h.ms⟩
  | right => exact ⟨h.u0, h.v0, h.w1, h.o, h.b, h.b, ⟨rfl, rfl⟩, h.cs, h.ms⟩
  | turn => exact ⟨h.u0, h.v0, h.w1, h.o, h.p, h.b, ⟨by show (!A.r) = !C.r; rw [h.r.1], by show (!B.r) = !C.r; rw [h.r.2]⟩, h.cs, h.ms⟩
  | gap => exact ⟨h.u0, h.v0, h.w1, rm, h.p, h.b, h.r, h.cs, h.ms⟩
  | rest => exact h
  | steps n => exact h.mv n
  | fill n =>
    have n0 : 0 ≤ n := by have := hd.1; omega
    have e1 := hcnt n rfl
    have e2 := h.cnt ha hb hc n0 rfl e1.symm
    have m := h.mv (A.cnt n)
    have c1 := h.cs.1
    have c2 := h.cs.2
    show Mix u v w { A.mv (A.cnt n) with cs := A.cs ++ [A.cnt n] } { B.mv (B.cnt n) with cs := B.cs ++ [B.cnt n] } { C.mv (C.cnt n) with cs := C.cs ++ [C.cnt n] }
    rw [← e1, e2]
    exact ⟨m.u0, m.v0, m.w1, m.o, m.p, m.b, m.r, ⟨by show A.cs ++ _ = C.cs ++ _; rw [c1], by show B.cs ++ _ = C.cs ++ _; rw [c2]⟩, m.ms⟩
  | mark a =>
    obtain ⟨T, e1, e2, e3, e4⟩ := h.ms
    refine ⟨h.u0, h.v0, h.w1, h.o, h.p, h.b, h.r, h.cs, ?_⟩
    refine ⟨if (T.any fun t => decide (t.1 = a)) = true then T.map (fun t => if t.1 = a then (t.1, A.p, B.p, C.p) else t) else T ++ [(a, A.p, B.p, C.p)], ?_, ?_, ?_, fun t ht => ?_⟩
    · show putM A.ms a A.p = _
      rw [e1]
      exact putM_T (fun t => t.2.1) a A.p B.p C.p T fun _ => rfl
    · show putM B.ms a B.p = _
      rw [e2]
      exact putM_T (fun t => t.2.2.1) a A.p B.p C.p T fun _ => rfl
    · show putM C.ms a C.p = _
      rw [e3]
      exact putM_T (fun t => t.2.2.2) a A.p B.p C.p T fun _ => rfl
    · split at ht
      · obtain ⟨t', ht', rfl⟩ := List.mem_map.mp ht
        split
        · exact h.p
        · exact e4 t' ht'
      · rcases List.mem_append.mp ht with ht | ht
        · exact e4 t ht
        · rw [List.mem_singleton.mp ht]; exact h.p
  | go a =>
    obtain ⟨T, e1, e2, e3, e4⟩ := h.ms
    refine ⟨h.u0, h.v0, h.w1, h.o, ?_, h.b, h.r, h.cs, h.ms⟩
    show w * (lkm C.ms a).getD 0 = u * (lkm A.ms a).getD 0 + v * (lkm B.ms a).getD 0
    rw [e1, e2, e3, lkm_T (fun t => t.2.1) a T, lkm_T (fun t => t.2.2.1) a T, lkm_T (fun t => t.2.2.2) a T]
    cases e : T.find? fun t => a == t.1 with
    | none => simp
    | some t => exact e4 t (List.mem_of_find?_eq_some e)
  | span a c => exact ns.elim
/-- a run between two with the same counts and end is like them -/
theorem mix_run {u v w : Int} : ∀ (ds : List Dd) (i : Nat) (A B C : Ln), Mix u v w A B C → A.Ok → B.Ok → C.Ok → (∀ d ∈ ds, d.Ok ∧ d.nspn) → ky (run3 A i ds) = ky (run3 B i ds) → ky (run3 C i ds) = ky (run3 A i ds) ∧ Mix u v w (run3 A i ds).1 (run3 B i ds).1 (run3 C i ds).1 := by
  intro ds
  induction ds with
  | nil =>
    intro i A B C m ha hb hc _ _
    refine ⟨?_, m⟩
    show (C.cs, _) = (A.cs, _)
    rw [m.cs.1]
    rfl
  | cons d ds ih =>
    intro i A B C m ha hb hc hd e
    obtain ⟨dO, dn⟩ := hd d List.mem_cons_self
    have W := m.why ha hb hc d dn
    cases wa : A.why d with
    | some y =>
      cases wb : B.why d with
      | some y' =>
        rw [run3_bad wa, run3_bad wb] at e
        rw [run3_bad wa, run3_bad wb, run3_bad (W.1 y y' wa wb)]
        refine ⟨?_, m⟩
        show (C.cs, _) = (A.cs, _)
        rw [m.cs.1]
      | none =>
        exfalso
        rw [run3_bad wa] at e
        cases o : B.isOver d with
        | true =>
          rw [run3_over wb o] at e
          have : (("failed" : Str)) = "over" := congrArg (fun t => t.2.1) e
          exact absurd this (by decide)
        | false =>
          rw [run3_on wb o] at e
          have e2 : i = (run3 (B.done d) (i + 1) ds).2.2.1 := congrArg (fun t => t.2.2.1) e
          have := run3_where ds (i + 1) (B.done d)
          omega
    | none =>
      cases wb : B.why d with
      | some y' =>
        exfalso
        rw [run3_bad wb] at e
        cases o : A.isOver d with
        | true =>
          rw [run3_over wa o] at e
          have : (("over" : Str)) = "failed" := congrArg (fun t => t.2.1) e
          exact absurd this (by decide)
        | false =>
          rw [run3_on wa o] at e
          have e2 : (run3 (A.done d) (i + 1) ds).2.2.1 = i := congrArg (fun t => t.2.2.1) e
          have := run3_where ds (i + 1) (A.done d)
          omega
      | none =>
        have wc := W.2 wa wb
        have oe : A.isOver d = B.isOver d := by
          cases oa : A.isOver d with
          | true =>
            cases ob : B.isOver d with
            | true => rfl
            | false =>
              exfalso
              rw [run3_over wa oa, run3_on wb ob] at e
              have e2 : i = (run3 (B.done d) (i + 1) ds).2.2.1 := congrArg (fun t => t.2.2.1) e
              have := run3_where ds (i + 1) (B.done d)
              omega
          | false =>
            cases ob : B.isOver d with
            | false => rfl
            | true =>
              exfalso
              rw [run3_over wb ob, run3_on wa oa] at e
              have e2 : (run3 (A.done d) (i + 1) ds).2.2.1 = i := congrArg (fun t => t.2.2.1) e
              have := run3_where ds (i + 1) (A.done d)
              omega
        have oc := m.over ha hb hc d oe
        have cnt : ∀ n, d = .fill n → A.cnt n = B.cnt n := fun n en => by
          subst en
          have oa : A.isOver (.fill n) = false := rfl
          have ob : B.isOver (.fill n) = false := rfl
          rw [run3_on wa oa, run3_on wb ob] at e
          obtain ⟨l, el⟩ := run3_cs ds (i + 1) (A.done (.fill n))
          obtain ⟨l', el'⟩ := run3_cs ds (i + 1) (B.done (.fill n))
          have e2 : (run3 (A.done (.fill n)) (i + 1) ds).1.cs = (run3 (B.done (.fill n)) (i + 1) ds).1.cs := congrArg (fun t => t.1) e
          rw [el, el', done_csA, done_csA, m.cs.1, m.cs.2] at e2
          simp only [List.append_assoc] at e2
          have := List.append_cancel_left e2
          simp at this
          exact this.1
        have m2 := m.done ha hb hc d dO dn cnt wa
        cases oa : A.isOver d with
        | true =>
          have ob : B.isOver d = true := by rw [← oe]; exact oa
          rw [oa] at oc
          rw [run3_over wa oa, run3_over wb ob, run3_over wc oc]
          refine ⟨?_, m2⟩
          show ((C.done d).cs, _) = ((A.done d).cs, _)
          rw [m2.cs.1]
        | false =>
          have ob : B.isOver d = false := by rw [← oe]; exact oa
          rw [oa] at oc
          rw [run3_on wa oa, run3_on wb ob] at e
          rw [run3_on wa oa, run3_on wb ob, run3_on wc oc]
          exact ih (i + 1) _ _ _ m2 (ha.doneOk dO wa) (hb.doneOk dO wb) (hc.doneOk dO wc) (fun x hx => hd x (List.mem_cons_of_mem _ hx)) e
/-- openings in order -/
def ole (p q : Int × Int) : Prop := p.1 * q.2 ≤ q.1 * p.2
theorem ole_eq {p q : Int × Int} (hp : Op p) (hq : Op q) (h1 : ole p q) (h2 : ole q p) : p = q := by
  unfold ole at h1 h2
  have e : p.1 * q.2 = q.1 * p.2 := by omega
  have p1 : 1 ≤ p.2 := by have := hp.n1; have := hp.le; omega
  have q1 : 1 ≤ q.2 := by have := hq.n1; have := hq.le; omega
  have a := rr_self p1 hp.g
  have b := rr_self q1 hq.g
  have c := rr_cross (u := p.1) (v := p.2) (x := q.1) (y := q.2) (by have := hp.n1; omega) p1 (by have := hq.n1; omega) q1 (by omega)
  rw [a, b] at c
  exact Prod.ext (by have := congrArg (·.1) c; exact this.symm) (by have := congrArg (·.2) c; exact this.symm)
theorem mix_l0 {p q m : Int × Int} (hp : Op p) (hq : Op q) (hm : Op m) (h1 : ole p m) (h2 : ole m q) (ne : p ≠ q) : Mix (q.1 * m.2 - m.1 * q.2) (m.1 * p.2 - p.1 * m.2) (q.1 * p.2 - p.1 * q.2) (l0 p) (l0 q) (l0 m) := by
  unfold ole at h1 h2
  have x1 := hp.n1
  have x2 := hq.n1
  have x3 := hm.n1
  have y1 := hp.le
  have y2 := hq.le
  have y3 := hm.le
  refine ⟨by omega, by omega, ?_, ?_, by simp [l0], ?_, ⟨rfl, rfl⟩, ⟨rfl, rfl⟩, [], rfl, rfl, rfl, (fun _ h => nomatch h)⟩
  · refine Classical.byContradiction fun n => ne (ole_eq hp hq ?_ ?_)
    · refine Classical.byContradiction fun k => ?_
      unfold ole at k
      have k : q.1 * p.2 < p.1 * q.2 := by omega
      have e1 : p.1 * m.2 * q.2 ≤ m.1 * p.2 * q.2 := Int.mul_le_mul_of_nonneg_right h1 (by omega)
      have e2 : m.1 * q.2 * p.2 ≤ q.1 * m.2 * p.2 := Int.mul_le_mul_of_nonneg_right h2 (by omega)
      have e3 : q.1 * p.2 * m.2 < p.1 * q.2 * m.2 := Int.mul_lt_mul_of_pos_right k (by omega)
      grind
    · unfold ole; omega
  · show (q.1 * p.2 - p.1 * q.2) * m.1 = (q.1 * m.2 - m.1 * q.2) * p.1 + (m.1 * p.2 - p.1 * m.2) * q.1
    grind
  · show (q.1 * p.2 - p.1 * q.2) * m.2 = (q.1 * m.2 - m.1 * q.2) * p.2 + (m.1 * p.2 - p.1 * m.2) * q.2
    grind
end LW

namespace LW
open PySem PySem.Spec PyProof.Rows L2 DL
/-! ## k88: walks of the law -/
theorem run3_done : ∀ (ds : List Dd) (i : Nat) (L : Ln), (run3 L i ds).2.1 = "done" → (run3 L i ds).2.2.1 = i + ds.length := by
  intro ds
  induction ds with
  | nil => intro i L _; rfl
  | cons d ds ih =>
    intro i L h
    cases w : L.why d with
    | some y => rw [run3_bad w] at h; have h : ("failed" : Str) = "done" := h; exact absurd h (by decide)
    | none =>
      cases o : L.isOver d with
      | true => rw [run3_over w o] at h; have h : ("over" : Str) = "done" := h; exact absurd h (by decide)
      | false =>
        rw [run3_on w o] at h ⊢
        rw [ih (i + 1) _ h, List.length_cons]
        omega
theorem wl_where (u v : Sl) (k j : Nat) : ∀ (ds : List Dd) (i : Nat) (L : Ln) (z : Zs) (t3 t4 : Sl) (Q : Fl → Rho → Zs → Prop) (X : Er → Rho → Zs → Prop), LnAt z k j L → L.Ok → (∀ d ∈ ds, d.Ok) → L.cs.length + ds.length < 1000000 → L.ms.length + ds.length < 1000000 →
    ((run3 L i ds).2.1 = "done" → ∀ t3 t4 z', Oth z z' k j → Q .nx [u, v, Sl.fr (.mc k), t3, t4] z') → ((run3 L i ds).2.1 ≠ "done" → ∀ ρ z', Oth z z' k j → Q (.ret (.int ((run3 L i ds).2.2.1 : Nat))) ρ z') →
    forL (gTp 2 (gCn (gN 3) (gCn (gN 4) gNl))) p0__law_ds_where (enumD i (ds.map Dd.D)) [u, v, Sl.fr (.mc k), t3, t4] Q X z := by
  intro ds
  induction ds with
  | nil =>
    intro i L z t3 t4 Q X at_ ok hd hl hl2 h1 h2
    simp only [List.map_nil, enumD, forL_nil]
    exact h1 rfl _ _ z Oth.refl
  | cons d ds ih =>
    intro i L z t3 t4 Q X at_ ok hd hl hl2 h1 h2
    simp only [List.map_cons, enumD, forL_cons]
    simp
    rw [p0__law_ds_where]
    simp
    have d1 := hd d List.mem_cons_self
    simp only [List.length_cons] at hl hl2
    refine w_why at_ ok d d1 _ _ ?_
    cases hw : L.why d with
    | some y =>
      rw [run3_bad hw] at h2
      simp
      refine neyW L d d1 y _ hw ?_
      simp
      exact h2 (by show ¬ (("failed" : Str) = "done"); decide) _ _ Oth.refl
    | none =>
      have ok2 := ok.doneOk d1 hw
      simp
      refine w_done at_ ok d d1 hw (by omega) (by omega) _ _ fun z' at' oth => ?_
      have next : L.isOver d = false → ∀ t3 t4, forL (gTp 2 (gCn (gN 3) (gCn (gN 4) gNl))) p0__law_ds_where (enumD (i + 1) (ds.map Dd.D)) [u, v, Sl.fr (.mc k), t3, t4] Q X z' := fun ho t3 t4 => by
        rw [run3_on hw ho] at h1 h2
        exact ih (i + 1) (L.done d) z' t3 t4 Q X at' ok2 (fun e he => hd e (List.mem_cons_of_mem _ he)) (by have := done_cs L d; omega) (by have := done_ms L d; omega) (fun e t3 t4 z2 o => h1 e t3 t4 z2 (oth.trans o)) (fun e ρ z2 o => h2 e ρ z2 (oth.trans o))
      have stop : L.isOver d = true → ∀ ρ, Q (.ret (.int (i : Nat))) ρ z' := fun ho ρ => by
        rw [run3_over hw ho] at h2
        exact h2 (by show ¬ (("over" : Str) = "done"); decide) ρ z' oth
      cases d
      all_goals simp [Ln.told]
      all_goals first | exact next rfl _ _ | skip
      exact ⟨fun e => stop (decide_eq_true e) _, fun e => next (decide_eq_false e) _ _⟩
theorem w__law_ds_where (ds : List Dd) (hd : ∀ d ∈ ds, d.Ok) (hl : ds.length < 1000000) (p : Int × Int) (hp : Op p) (Q : D → Zs → Prop) (X : Er → Zs → Prop) (z : Zs) (hq : ∀ z', Old z z' → Q (.int ((run3 (l0 p) 0 ds).2.2.1 : Nat)) z') : m__law_ds_where [.lst (ds.map Dd.D), prD p] Q X z := by
  rw [me__law_ds_where]
  simp [s__law_ds_where]
  refine w_begun2 p.1 p.2 _ _ z fun z1 k j at1 k9 j9 n1 => ?_
  refine wl_where _ _ k j ds 0 (l0 p) z1 _ _ _ _ at1 hp.ok hd (by show 0 + ds.length < 1000000; omega) (by show 0 + ds.length < 1000000; omega) (fun e t3 t4 z2 o => ?_) (fun e ρ z2 o => ?_)
  · have := run3_done ds 0 (l0 p) e
    simp
    rw [this, Nat.zero_add] at hq
    exact hq z2 (o.old n1 k9 j9)
  · simp
    exact hq z2 (o.old n1 k9 j9)
/-- an end as it is told -/
def enD (r : Ln × Str × Nat × D) : D := if r.2.1 = "failed" then .tup [.str "failed", .int (r.2.2.1 : Nat), r.2.2.2] else .tup [.str r.2.1, prD (rr r.1.o r.1.b), prD (rr r.1.p r.1.b), .lst (mkD r.1.ms r.1.b)]
theorem go_run3 : ∀ (ds : List Dd) (i : Nat) (L : Ln), (L.go i ds).D = .tup [.lst ((run3 L i ds).1.cs.map .int), enD (run3 L i ds)] := by
  intro ds
  induction ds with
  | nil =>
    intro i L
    show L.fin "done" = _
    unfold enD
    rw [if_neg (by show ¬ (("done" : Str) = "failed"); decide)]
    rfl
  | cons d ds ih =>
    intro i L
    cases w : L.why d with
    | some y =>
      rw [run3_bad w, Ln.go, w]
      unfold enD
      rw [if_pos rfl]
      rfl
    | none =>
      cases o : L.isOver d with
      | true =>
        rw [run3_over w o, Ln.go, w]
        simp only
        rw [if_pos o]
        unfold enD
        rw [if_neg (by show ¬ (("over" : Str) = "failed"); decide)]
        rfl
      | false =>
        rw [run3_on w o, Ln.go, w]
        simp only
        rw [if_neg (by rw [o]; exact Bool.false_ne_true)]
        exact ih (i + 1) _
def vals (L : Ln) : List (Int × Int) := rr L.o L.b :: rr L.p L.b :: (srt L.ms).map fun q => rr q.2 L.b
def valsR (r : Ln × Str × Nat × D) : List (Int × Int) := if r.2.1 = "failed" then [] else vals r.1
theorem lc_vals (e : D) (z : Zs) : ∀ (l : List (D × (Int × Int))) (acc : List (Int × Int)) (Q : List D → Rho → Zs → Prop) (X : Er → Rho → Zs → Prop), acc.length + l.length < 16777216 →
    Q ((acc ++ l.map (·.2)).map prD) [Sl.fr e, Sl.no] z → lcL [1] (gN 1) (ep true) p0__law_ds_values (l.map fun q => .tup [q.1, prD q.2]) (acc.map prD) [Sl.fr e, Sl.no] Q X z := by
  intro l
  induction l with
  | nil => intro acc Q X _ h; simpa using h
  | cons q l ih =>
    intro acc Q X hl h
    simp only [List.length_cons] at hl
    simp only [List.map_cons]
    rw [lcL_cons]
    simp
    rw [p0__law_ds_values]
    simp
    refine ⟨by omega, ?_⟩
    simp only [wipeR, List.set_cons_zero, List.set_cons_succ]
    have e2 : acc.map prD ++ [prD q.2] = (acc ++ [q.2]).map prD := by simp
    rw [e2]
    refine ih (acc ++ [q.2]) Q X (by simp; omega) ?_
    simpa using h
theorem w__law_ds_values (r : Ln × Str × Nat × D) (hl : r.1.ms.length < 1000000) (Q : List D → Zs → Prop) (X : Er → Zs → Prop) (z : Zs) (hq : Q ((valsR r).map prD) z) : m__law_ds_values [enD r] Q X z := by
  rw [me__law_ds_values]
  unfold valsR at hq
  unfold enD
  by_cases h : r.2.1 = "failed"
  · rw [if_pos h] at hq ⊢
    simp [s__law_ds_values]
    exact hq
  · rw [if_neg h] at hq ⊢
    have em : mkD r.1.ms r.1.b = ((srt r.1.ms).map fun q => (D.str q.1, rr q.2 r.1.b)).map fun q => .tup [q.1, prD q.2] := by
      unfold mkD
      rw [List.map_map]
      rfl
    have sl : (srt r.1.ms).length = r.1.ms.length := by unfold srt; exact List.length_mergeSort _
    simp [s__law_ds_values, h]
    rw [em]
    simp only [wipeR, List.set_cons_zero, List.set_cons_succ]
    refine lc_vals _ z ((srt r.1.ms).map fun q => (D.str q.1, rr q.2 r.1.b)) [] _ _ (by simp; omega) ?_
    simp
    unfold vals at hq
    refine ⟨by omega, ?_⟩
    simp at hq
    exact hq
end LW

namespace LW
open PySem PySem.Spec PyProof.Rows L2 DL
/-! ## k88: straight lines -/
/-- values at three openings lie straight -/
def Strt (x y z : Int × Int) (a b c : Int × Int) : Prop := (b.1 * a.2 - a.1 * b.2) * c.2 * ((z.1 * x.2 - x.1 * z.2) * y.2) = (c.1 * a.2 - a.1 * c.2) * b.2 * ((y.1 * x.2 - x.1 * y.2) * z.2)
theorem strt_core {u v w xa ba xb bb xc bc : Int} (e1 : w * xc = u * xa + v * xb) (e2 : w * bc = u * ba + v * bb) {a b c : Int × Int} {g h k : Int} (g0 : g ≠ 0) (h0 : h ≠ 0) (k0 : k ≠ 0) (a1 : xa = a.1 * g) (a2 : ba = a.2 * g) (b1 : xc = b.1 * h) (b2 : bc = b.2 * h) (c1 : xb = c.1 * k) (c2 : bb = c.2 * k) :
    (b.1 * a.2 - a.1 * b.2) * c.2 * (w * bc) = (c.1 * a.2 - a.1 * c.2) * b.2 * (v * bb) := by
  have key : (xc * ba - xa * bc) * w = (xb * ba - xa * bb) * v := by
    have : (xc * ba - xa * bc) * w = (w * xc) * ba - xa * (w * bc) := by grind
    rw [this, e1, e2]
    grind
  have big : ((b.1 * a.2 - a.1 * b.2) * c.2 * (w * bc)) * (g * h * k) = ((c.1 * a.2 - a.1 * c.2) * b.2 * (v * bb)) * (g * h * k) := by
    have l : ((b.1 * a.2 - a.1 * b.2) * c.2 * (w * bc)) * (g * h * k) = ((xc * ba - xa * bc) * w) * (bb * bc) := by
      rw [a1, a2, b1, c2]; grind
    have r : ((c.1 * a.2 - a.1 * c.2) * b.2 * (v * bb)) * (g * h * k) = ((xb * ba - xa * bb) * v) * (bb * bc) := by
      rw [a1, a2, b2, c1]; grind
    rw [l, r, key]
  have n : g * h * k ≠ 0 := Int.mul_ne_zero (Int.mul_ne_zero g0 h0) k0
  exact Int.eq_of_mul_eq_mul_right n big
theorem rr_g {u v : Int} (h : 1 ≤ v) : ∃ g : Int, g ≠ 0 ∧ u = (rr u v).1 * g ∧ v = (rr u v).2 * g := by
  obtain ⟨g, g1, e1, e2, _⟩ := rr_eqs (u := u) h
  exact ⟨g, by omega, e1, e2⟩
theorem strt_same {x y z a b c : Int × Int} (e : x = y) (e2 : x = z) (f : a = b) (f2 : a = c) : Strt x y z a b c := by
  subst e e2 f f2
  unfold Strt
  grind
/-- the values of the three lines -/
theorem vals_strt {p q m : Int × Int} (hp : Op p) (hq : Op q) (hm : Op m) {A B C : Ln} (M : Mix (q.1 * m.2 - m.1 * q.2) (m.1 * p.2 - p.1 * m.2) (q.1 * p.2 - p.1 * q.2) A B C) (ea : A.b = p.2) (eb : B.b = q.2) (ec : C.b = m.2) :
    (vals A).length = (vals B).length ∧ (vals A).length = (vals C).length ∧ ∀ (i : Nat) a b c, (vals A)[i]? = some a → (vals C)[i]? = some b → (vals B)[i]? = some c → Strt p m q a b c := by
  have p1 : 1 ≤ p.2 := by have := hp.n1; have := hp.le; omega
  have q1 : 1 ≤ q.2 := by have := hq.n1; have := hq.le; omega
  have m1 : 1 ≤ m.2 := by have := hm.n1; have := hm.le; omega
  have one : ∀ x y z : Int, (q.1 * p.2 - p.1 * q.2) * z = (q.1 * m.2 - m.1 * q.2) * x + (m.1 * p.2 - p.1 * m.2) * y → Strt p m q (rr x p.2) (rr z m.2) (rr y q.2) := fun x y z e => by
    obtain ⟨g, g0, a1, a2⟩ := rr_g (u := x) p1
    obtain ⟨h, h0, b1, b2⟩ := rr_g (u := z) m1
    obtain ⟨k, k0, c1, c2⟩ := rr_g (u := y) q1
    have e2 : (q.1 * p.2 - p.1 * q.2) * m.2 = (q.1 * m.2 - m.1 * q.2) * p.2 + (m.1 * p.2 - p.1 * m.2) * q.2 := by grind
    exact strt_core e e2 g0 h0 k0 a1 a2 b1 b2 c1 c2
  obtain ⟨T, e1, e2, e3, e4⟩ := M.ms
  have st : ∀ (f : Tm → Int), srt (T.map fun t => (t.1, f t)) = (T.mergeSort fun s t => decide (s.1.cps.toList ≤ t.1.cps.toList)).map fun t => (t.1, f t) := fun f => by
    unfold srt
    exact (List.map_mergeSort (r := fun s t : Tm => decide (s.1.cps.toList ≤ t.1.cps.toList)) (s := sle) (f := fun t : Tm => (t.1, f t)) (l := T) (fun a _ b _ => rfl)).symm
  have pm : ∀ t, t ∈ (T.mergeSort fun s t => decide (s.1.cps.toList ≤ t.1.cps.toList)) → t ∈ T := fun t ht => (List.mergeSort_perm _ _).mem_iff.mp ht
  unfold vals
  rw [e1, e2, e3, st (fun t => t.2.1), st (fun t => t.2.2.1), st (fun t => t.2.2.2), ea, eb, ec]
  generalize (T.mergeSort fun s t => decide (s.1.cps.toList ≤ t.1.cps.toList)) = U at pm
  refine ⟨by simp, by simp, fun i a b c ha hb hc => ?_⟩
  rcases i with _ | _ | i
  · simp at ha hb hc
    subst ha hb hc
    exact one _ _ _ M.o
  · simp at ha hb hc
    subst ha hb hc
    exact one _ _ _ M.p
  · simp only [List.getElem?_cons_succ, List.getElem?_map, List.map_map] at ha hb hc
    cases et : U[i]? with
    | none => rw [et] at ha; cases ha
    | some t =>
      rw [et] at ha hb hc
      cases ha
      cases hb
      cases hc
      exact one _ _ _ (e4 t (pm t (List.mem_of_getElem? et)))
theorem run3_b : ∀ (ds : List Dd) (i : Nat) (L : Ln), (run3 L i ds).1.b = L.b := by
  intro ds
  induction ds with
  | nil => intro i L; rfl
  | cons d ds ih =>
    intro i L
    have db : (L.done d).b = L.b := by cases d <;> rfl
    cases w : L.why d with
    | some y => rw [run3_bad w]
    | none =>
      cases o : L.isOver d with
      | true => rw [run3_over w o]; exact db
      | false => rw [run3_on w o, ih, db]
/-- three openings in order with the same counts and end -/
theorem three_strt (ds : List Dd) (hd : ∀ d ∈ ds, d.Ok ∧ d.nspn) {p m q : Int × Int} (hp : Op p) (hm : Op m) (hq : Op q) (h1 : ole p m) (h2 : ole m q) (e : ky (run3 (l0 p) 0 ds) = ky (run3 (l0 q) 0 ds)) :
    ky (run3 (l0 m) 0 ds) = ky (run3 (l0 p) 0 ds) ∧ ((valsR (run3 (l0 p) 0 ds)).length = (valsR (run3 (l0 m) 0 ds)).length ∧ (valsR (run3 (l0 p) 0 ds)).length = (valsR (run3 (l0 q) 0 ds)).length ∧
      ∀ (i : Nat) a b c, (valsR (run3 (l0 p) 0 ds))[i]? = some a → (valsR (run3 (l0 m) 0 ds))[i]? = some b → (valsR (run3 (l0 q) 0 ds))[i]? = some c → Strt p m q a b c) := by
  by_cases ne : p = q
  · have em : m = p := ole_eq hm hp (by rw [ne]; exact h2) h1
    subst em
    subst ne
    refine ⟨rfl, rfl, rfl, fun i a b c ha hb hc => ?_⟩
    rw [ha] at hb hc
    cases hb
    cases hc
    exact strt_same rfl rfl rfl rfl
  · obtain ⟨k, M⟩ := mix_run ds 0 _ _ _ (mix_l0 hp hq hm h1 h2 ne) hp.ok hq.ok hm.ok hd e
    refine ⟨k, ?_⟩
    have w1 : (run3 (l0 m) 0 ds).2.1 = (run3 (l0 p) 0 ds).2.1 := congrArg (fun t => t.2.1) k
    have w2 : (run3 (l0 p) 0 ds).2.1 = (run3 (l0 q) 0 ds).2.1 := congrArg (fun t => t.2.1) e
    unfold valsR
    rw [w1, ← w2]
    by_cases f : (run3 (l0 p) 0 ds).2.1 = "failed"
    · rw [if_pos f, if_pos f, if_pos f]
      exact ⟨rfl, rfl, fun i a b c ha => nomatch ha⟩
    · rw [if_neg f, if_neg f, if_neg f]
      obtain ⟨l1, l2, l3⟩ := vals_strt hp hq hm M (run3_b ds 0 _) (run3_b ds 0 _) (run3_b ds 0 _)
      exact ⟨l2, l1, l3⟩
end LW

namespace LW
open PySem PySem.Spec PyProof.Rows L2 DL
/-! ## k88: the law's straight lines, walk -/
def sD : E Fl := (sSeq (sFor (eb (aC (uO dLen (ePk 4)) aN) fRng1) (gN 3) p0__law_ds_straight)
    (sRet (ep (.bl true))))
def sC : E Fl := (sSeq (sAsg (bO dMul (bO dSub (bO dMul (bO dIx (ePk 8) (ep (.int 0))) (bO dIx (ePk 7) (ep (.int 1)))) (bO dMul (bO dIx (ePk 7) (ep (.int 0))) (bO dIx (ePk 8) (ep (.int 1))))) (bO dIx (ePk 9) (ep (.int 1)))) (gN 1))
    (sSeq (sAsg (bO dMul (bO dSub (bO dMul (bO dIx (ePk 9) (ep (.int 0))) (bO dIx (ePk 7) (ep (.int 1)))) (bO dMul (bO dIx (ePk 7) (ep (.int 0))) (bO dIx (ePk 9) (ep (.int 1))))) (bO dIx (ePk 8) (ep (.int 1)))) (gN 2))
    sD))
def sB : E Fl := (sSeq (sIf (eOr (eT (bO dNe (uO dLen (ePk 4)) (uO dLen (ePk 5)))) (eT (bO dNe (uO dLen (ePk 4)) (uO dLen (ePk 6)))))
    (sRet (ep (.bl false)))
    (ep .nx))
    (sSeq (sAsg (oP (eLc [11] (eb (eVar 0) fSeqI) (gN 11) (ep true) p1__law_ds_straight)) (gTp 3 (gCn (gN 7) (gCn (gN 8) (gCn (gN 9) gNl)))))
    sC))
theorem s__law_ds_straight_cut : s__law_ds_straight = (sSeq (sAsg (oP (eLc [11] (eb (eVar 0) fSeqI) (gN 11) (ep true) p2__law_ds_straight)) (gTp 3 (gCn (gN 4) (gCn (gN 5) (gCn (gN 6) gNl)))))
    sB) := rfl
/-- pairs of small numbers -/
def sp17 (p : Int × Int) : Prop := p.1.natAbs ≤ 1000 ∧ p.2.natAbs ≤ 1000
theorem sp_mul {x y : Int} (hx : x.natAbs ≤ 1000) (hy : y.natAbs ≤ 1000) : (x * y).natAbs ≤ 1000000 := by
  rw [Int.natAbs_mul]
  exact Nat.mul_le_mul hx hy
theorem sp_dif {a b : Int × Int} (ha : sp17 a) (hb : sp17 b) : (b.1 * a.2 - a.1 * b.2).natAbs ≤ 2000000 := by
  have := sp_mul hb.1 ha.2
  have := sp_mul ha.1 hb.2
  omega
theorem sp_tri {a b c : Int × Int} (ha : sp17 a) (hb : sp17 b) (hc : sp17 c) : ((b.1 * a.2 - a.1 * b.2) * c.2).natAbs ≤ 2000000000 := by
  rw [Int.natAbs_mul]
  exact Nat.mul_le_mul (sp_dif ha hb) hc.2
theorem mulC_a {x y : Int} (h : x.natAbs ≤ 2000000000) : MulC x y := .inl (by omega)
theorem w_st0 (x y z a b c : Int × Int) (vA vC vB : List D) (i : Int) (ha : atI vA i = some (prD a)) (hb : atI vC i = some (prD b)) (hc : atI vB i = some (prD c)) (sx : sp17 x) (sy : sp17 y) (sz : sp17 z) (sa : sp17 a) (sb : sp17 b) (sc : sp17 c) (s0 s7 s8 s9 t10 t11 t12 t13 : Sl) (W P : Int) (hW : W = (z.1 * x.2 - x.1 * z.2) * y.2) (hP : P = (y.1 * x.2 - x.1 * y.2) * z.2) (Q : Fl → Rho → Zs → Prop) (X : Er → Rho → Zs → Prop) (zz : Zs) (st : Strt x y z a b c)
    (h : ∀ t10 t11 t12 t13, Q .nx [s0, Sl.fr (.int P), Sl.fr (.int W), Sl.fr (.int i), Sl.fr (.lst vA), Sl.fr (.lst vC), Sl.fr (.lst vB), s7, s8, s9, t10, t11, t12, t13] zz) :
    p0__law_ds_straight [s0, Sl.fr (.int P), Sl.fr (.int W), Sl.fr (.int i), Sl.fr (.lst vA), Sl.fr (.lst vC), Sl.fr (.lst vB), s7, s8, s9, t10, t11, t12, t13] Q X zz := by
  rw [p0__law_ds_straight]
  simp [ha, hb, hc, prD]
  have m1 : ∀ {x : Int} (y : Int), x.natAbs ≤ 1000 → MulC x y := fun y h => mulC_a (by omega)
  have m2 : ∀ {x y : Int × Int} (w : Int), sp17 x → sp17 y → MulC (y.1 * x.2 - x.1 * y.2) w := fun w h g => mulC_a (by have := sp_dif h g; omega)
  have e : (b.1 * a.2 - a.1 * b.2) * c.2 * W = (c.1 * a.2 - a.1 * c.2) * b.2 * P := by rw [hW, hP]; exact st
  exact ⟨m1 _ sb.1, m1 _ sa.1, m2 _ sa sb, mulC_a (sp_tri sa sb sc), m1 _ sc.1, m1 _ sa.1, m2 _ sa sc, mulC_a (sp_tri sa sc sb), fun n => absurd e n, fun _ => h _ _ _ _⟩
theorem wl_st (x y z : Int × Int) (sx : sp17 x) (sy : sp17 y) (sz : sp17 z) (vA vC vB : List (Int × Int)) (l1 : vA.length = vC.length) (l2 : vA.length = vB.length) (sp : ∀ p, p ∈ vA ∨ p ∈ vC ∨ p ∈ vB → sp17 p) (st : ∀ (i : Nat) a b c, vA[i]? = some a → vC[i]? = some b → vB[i]? = some c → Strt x y z a b c) (s0 s7 s8 s9 : Sl) (W P : Int) (hW : W = (z.1 * x.2 - x.1 * z.2) * y.2) (hP : P = (y.1 * x.2 - x.1 * y.2) * z.2) (X : Er → Rho → Zs → Prop) (zz : Zs) :
    ∀ (n : Nat) (i : Nat) (t3 t10 t11 t12 t13 : Sl) (Q : Fl → Rho → Zs → Prop), i + n = vA.length → (∀ t3 t10 t11 t12 t13, Q .nx [s0, Sl.fr (.int P), Sl.fr (.int W), t3, Sl.fr (.lst (vA.map prD)), Sl.fr (.lst (vC.map prD)), Sl.fr (.lst (vB.map prD)), s7, s8, s9, t10, t11, t12, t13] zz) →
    forL (gN 3) p0__law_ds_straight (rngD (i : Int) n) [s0, Sl.fr (.int P), Sl.fr (.int W), t3, Sl.fr (.lst (vA.map prD)), Sl.fr (.lst (vC.map prD)), Sl.fr (.lst (vB.map prD)), s7, s8, s9, t10, t11, t12, t13] Q X zz := by
  intro n
  induction n with
  | zero => intro i t3 t10 t11 t12 t13 Q _ h; simpa [rngD] using h t3 t10 t11 t12 t13
  | succ n ih =>
    intro i t3 t10 t11 t12 t13 Q e h
    have g : ∀ l : List (Int × Int), l.length = vA.length → ∃ a, l[i]? = some a ∧ atI (l.map prD) (i : Int) = some (prD a) ∧ a ∈ l := fun l hl => by
      have : i < l.length := by omega
      refine ⟨l[i], List.getElem?_eq_getElem this, ?_, List.getElem_mem this⟩
      exact L2.atI_nat (by rw [List.getElem?_map, List.getElem?_eq_getElem this]; rfl)
    obtain ⟨a, a1, a2, a3⟩ := g vA rfl
    obtain ⟨b, b1, b2, b3⟩ := g vC l1.symm
    obtain ⟨c, c1, c2, c3⟩ := g vB l2.symm
    simp only [rngD, forL_cons, gN_a, List.set_cons_zero, List.set_cons_succ]
    refine w_st0 x y z a b c _ _ _ (i : Int) a2 b2 c2 sx sy sz (sp a (.inl a3)) (sp b (.inr (.inl b3))) (sp c (.inr (.inr c3))) s0 s7 s8 s9 _ _ _ _ W P hW hP _ X zz (st i a b c a1 b1 c1) fun t10 t11 t12 t13 => ?_
    simp only [forK_1]
    have e1 : (i : Int) + 1 = ((i + 1 : Nat) : Int) := by omega
    rw [e1]
    exact ih (i + 1) _ _ _ _ _ Q (by omega) h
def thD (p : Int × Int) (r : Ln × Str × Nat × D) : D := .tup [prD p, enD r]
theorem w__law_ds_straight (x y z : Int × Int) (sx : sp17 x) (sy : sp17 y) (sz : sp17 z) (rA rC rB : Ln × Str × Nat × D) (hm : ∀ r, r = rA ∨ r = rC ∨ r = rB → r.1.ms.length < 1000000) (l1 : (valsR rA).length = (valsR rC).length) (l2 : (valsR rA).length = (valsR rB).length) (ll : (valsR rA).length ≤ 1000000) (sp : ∀ p, p ∈ valsR rA ∨ p ∈ valsR rC ∨ p ∈ valsR rB → sp17 p) (st : ∀ (i : Nat) a b c, (valsR rA)[i]? = some a → (valsR rC)[i]? = some b → (valsR rB)[i]? = some c → Strt x y z a b c)
    (Q : D → Zs → Prop) (X : Er → Zs → Prop) (zz : Zs) (hq : Q (.bl true) zz) : m__law_ds_straight [.lst [thD x rA, thD y rC, thD z rB]] Q X zz := by
  rw [me__law_ds_straight, s__law_ds_straight_cut]
  simp
  simp only [wipeR, List.set_cons_zero, List.set_cons_succ]
  have step : ∀ (p : Int × Int) (r : Ln × Str × Nat × D) (s0 s1 s2 s3 s4 s5 s6 s7 s8 s9 s10 s12 s13 : Sl) (Q' : D → Rho → Zs → Prop) (X' : Er → Rho → Zs → Prop), r.1.ms.length < 1000000 → Q' (.lst ((valsR r).map prD)) [s0, s1, s2, s3, s4, s5, s6, s7, s8, s9, s10, Sl.fr (thD p r), s12, s13] zz → p2__law_ds_straight [s0, s1, s2, s3, s4, s5, s6, s7, s8, s9, s10, Sl.fr (thD p r), s12, s13] Q' X' zz := fun p r s0 s1 s2 s3 s4 s5 s6 s7 s8 s9 s10 s12 s13 Q' X' hr h => by
    rw [p2__law_ds_straight]
    simp [thD]
    refine w__law_ds_values r hr _ _ zz ?_
    exact h
  rw [lcL_cons]
  simp
  refine step x rA _ _ _ _ _ _ _ _ _ _ _ _ _ _ _ (hm rA (.inl rfl)) ?_
  try simp
  simp only [wipeR, List.set_cons_zero, List.set_cons_succ]
  rw [lcL_cons]
  simp
  refine step y rC _ _ _ _ _ _ _ _ _ _ _ _ _ _ _ (hm rC (.inr (.inl rfl))) ?_
  try simp
  simp only [wipeR, List.set_cons_zero, List.set_cons_succ]
  rw [lcL_cons]
  simp
  refine step z rB _ _ _ _ _ _ _ _ _ _ _ _ _ _ _ (hm rB (.inr (.inr rfl))) ?_
  try simp
  generalize valsR rA = vA at *
  generalize valsR rB = vB at *
  generalize valsR rC = vC at *
  simp only [wipeR, List.set_cons_zero, List.set_cons_succ]
  rw [sB]
  simp [← l1, ← l2]
  simp only [wipeR, List.set_cons_zero, List.set_cons_succ]
  have one : ∀ (p : Int × Int) (r : Ln × Str × Nat × D) (s0 s1 s2 s3 s4 s5 s6 s7 s8 s9 s10 s12 s13 : Sl) (Q' : D → Rho → Zs → Prop) (X' : Er → Rho → Zs → Prop), Q' (prD p) [s0, s1, s2, s3, s4, s5, s6, s7, s8, s9, s10, Sl.fr (thD p r), s12, s13] zz → p1__law_ds_straight [s0, s1, s2, s3, s4, s5, s6, s7, s8, s9, s10, Sl.fr (thD p r), s12, s13] Q' X' zz := fun p r s0 s1 s2 s3 s4 s5 s6 s7 s8 s9 s10 s12 s13 Q' X' h => by
    rw [p1__law_ds_straight]
    simp [thD]
    exact h
  rw [lcL_cons]
  simp
  refine one x rA _ _ _ _ _ _ _ _ _ _ _ _ _ _ _ ?_
  try simp
  simp only [wipeR, List.set_cons_zero, List.set_cons_succ]
  rw [lcL_cons]
  simp
  refine one y rC _ _ _ _ _ _ _ _ _ _ _ _ _ _ _ ?_
  try simp
  simp only [wipeR, List.set_cons_zero, List.set_cons_succ]
  rw [lcL_cons]
  simp
  refine one z rB _ _ _ _ _ _ _ _ _ _ _ _ _ _ _ ?_
  try simp
  simp only [wipeR, List.set_cons_zero, List.set_cons_succ]
  rw [sC]
  have m1 : ∀ {x : Int} (y : Int), x.natAbs ≤ 1000 → MulC x y := fun y h => mulC_a (by omega)
  have m2 : ∀ {x y : Int × Int} (w : Int), sp17 x → sp17 y → MulC (y.1 * x.2 - x.1 * y.2) w := fun w h g => mulC_a (by have := sp_dif h g; omega)
  simp [prD, m1 _ sx.1, m1 _ sy.1, m1 _ sz.1, m2 _ sx sy, m2 _ sx sz]
  rw [sD]
  simp
  refine ⟨by omega, ?_⟩
  refine wl_st x y z sx sy sz vA vC vB l1 l2 sp st _ _ _ _ _ _ rfl rfl _ zz vA.length 0 _ _ _ _ _ _ (by omega) fun t3 t10 t11 t12 t13 => ?_
  simp
  exact hq
end LW

namespace LW
open PySem PySem.Spec PyProof.Rows L2 DL
/-! ## k88: the openings -/
/-- openings with small numbers -/
structure Osm (p : Int × Int) : Prop where
  o : Op p
  d : p.2 ≤ 1000
theorem Osm.sp {p : Int × Int} (h : Osm p) : sp17 p := by
  have := h.d
  have := h.o.n1
  have := h.o.le
  exact ⟨by omega, by omega⟩
theorem osm_rr {u v : Int} (h1 : 1 ≤ u) (h : u ≤ v) (h9 : v ≤ 1000) : Osm (rr u v) := by
  refine ⟨op_rr h1 h (by omega), ?_⟩
  obtain ⟨g, g1, e1, e2, _⟩ := rr_eqs (u := u) (v := v) (by omega)
  have o := op_rr h1 h (by omega)
  have : 1 ≤ (rr u v).2 := by have := o.n1; have := o.le; omega
  have : (rr u v).2 * 1 ≤ (rr u v).2 * g := Int.mul_le_mul_of_nonneg_left g1 (by omega)
  omega
theorem rr_d1 {u v : Int} (h : 1 ≤ v) : 1 ≤ (rr u v).2 := by
  obtain ⟨g, g1, e1, e2, _⟩ := rr_eqs (u := u) h
  refine Classical.byContradiction fun n => ?_
  have := Int.mul_nonneg (show 0 ≤ -(rr u v).2 by omega) (show 0 ≤ g by omega)
  rw [Int.neg_mul] at this
  omega
theorem ole_rr {u w v : Int} (h : u ≤ w) (hv : 1 ≤ v) : ole (rr u v) (rr w v) := by
  obtain ⟨g, g1, e1, e2, _⟩ := rr_eqs (u := u) (v := v) (by omega)
  obtain ⟨k, k1, f1, f2, _⟩ := rr_eqs (u := w) (v := v) (by omega)
  unfold ole
  refine Classical.byContradiction fun n => ?_
  have n : (rr w v).1 * (rr u v).2 < (rr u v).1 * (rr w v).2 := by omega
  have p := Int.mul_pos (show 0 < g by omega) (show 0 < k by omega)
  have q := Int.mul_lt_mul_of_pos_right n p
  have e3 : (rr w v).1 * (rr u v).2 * (g * k) = w * v := by
    have : (rr w v).1 * (rr u v).2 * (g * k) = ((rr w v).1 * k) * ((rr u v).2 * g) := by grind
    rw [this, ← f1, ← e2]
  have e4 : (rr u v).1 * (rr w v).2 * (g * k) = u * v := by
    have : (rr u v).1 * (rr w v).2 * (g * k) = ((rr u v).1 * g) * ((rr w v).2 * k) := by grind
    rw [this, ← e1, ← f2]
  rw [e3, e4] at q
  have := Int.mul_le_mul_of_nonneg_right h (show 0 ≤ v by omega)
  omega
theorem ole_trans {p q r : Int × Int} (hp : 1 ≤ p.2) (hq : 1 ≤ q.2) (hr : 1 ≤ r.2) (a : ole p q) (b : ole q r) : ole p r := by
  unfold ole at *
  refine Classical.byContradiction fun n => ?_
  have n : r.1 * p.2 < p.1 * r.2 := by omega
  have e1 : p.1 * q.2 * r.2 ≤ q.1 * p.2 * r.2 := Int.mul_le_mul_of_nonneg_right a (by omega)
  have e2 : q.1 * r.2 * p.2 ≤ r.1 * q.2 * p.2 := Int.mul_le_mul_of_nonneg_right b (by omega)
  have e3 : r.1 * p.2 * q.2 < p.1 * r.2 * q.2 := Int.mul_lt_mul_of_pos_right n (by omega)
  grind
def olt (p q : Int × Int) : Bool := decide (p.1 * q.2 < q.1 * p.2)
theorem Osm.d1 {p : Int × Int} (h : Osm p) : 1 ≤ p.2 := by have := h.o.n1; have := h.o.le; omega
/-- what lies below stands ahead -/
theorem cut_at (x : Int × Int) (x1 : 1 ≤ x.2) : ∀ l : List (Int × Int), (∀ p ∈ l, 1 ≤ p.2) → l.Pairwise ole → (∀ a ∈ l.take (l.filter fun p => olt p x).length, ole a x) ∧ ∀ b ∈ l.drop (l.filter fun p => olt p x).length, ole x b
  | [], _, _ => ⟨(fun _ h => nomatch h), (fun _ h => nomatch h)⟩
  | p :: l, hp, pw => by
    obtain ⟨h1, h2⟩ := List.pairwise_cons.mp pw
    have p1 := hp p List.mem_cons_self
    have hl : ∀ q ∈ l, 1 ≤ q.2 := fun q hq => hp q (List.mem_cons_of_mem _ hq)
    obtain ⟨i1, i2⟩ := cut_at x x1 l hl h2
    by_cases k : olt p x = true
    · rw [List.filter_cons_of_pos (p := fun p => olt p x) k, List.length_cons]
      have pk := of_decide_eq_true k
      refine ⟨fun a ha => ?_, fun b hb => i2 b (by simpa using hb)⟩
      rw [List.take_succ_cons] at ha
      rcases List.mem_cons.mp ha with rfl | ha
      · unfold ole; omega
      · exact i1 a ha
    · have xp : ole x p := by
        have : ¬ p.1 * x.2 < x.1 * p.2 := fun t => k (decide_eq_true t)
        unfold ole; omega
      have none : (l.filter fun q => olt q x) = [] := by
        refine List.filter_eq_nil_iff.mpr fun q hq t => ?_
        have t := of_decide_eq_true t
        have := ole_trans x1 p1 (hl q hq) xp (h1 q hq)
        unfold ole at this
        omega
      rw [List.filter_cons_of_neg (p := fun p => olt p x) k, none]
      refine ⟨(fun _ h => nomatch h), fun b hb => ?_⟩
      simp only [List.length_nil, List.drop_zero] at hb
      rcases List.mem_cons.mp hb with rfl | hb
      · exact xp
      · exact ole_trans x1 p1 (hl b hb) xp (h1 b hb)
structure Ord (l : List (Int × Int)) : Prop where
  s : ∀ p ∈ l, Osm p
  p : l.Pairwise ole
theorem Ord.ins {l : List (Int × Int)} (h : Ord l) {x : Int × Int} (hx : Osm x) : Ord (l.take (l.filter fun p => olt p x).length ++ x :: l.drop (l.filter fun p => olt p x).length) := by
  obtain ⟨c1, c2⟩ := cut_at x hx.d1 l (fun p hp => (h.s p hp).d1) h.p
  generalize (l.filter fun p => olt p x).length = k at c1 c2 ⊢
  refine ⟨fun p hp => ?_, ?_⟩
  · rcases List.mem_append.mp hp with hp | hp
    · exact h.s p (List.mem_of_mem_take hp)
    · rcases List.mem_cons.mp hp with rfl | hp
      · exact hx
      · exact h.s p (List.mem_of_mem_drop hp)
  · rw [List.pairwise_append]
    refine ⟨h.p.sublist (List.take_sublist _ _), List.pairwise_cons.mpr ⟨c2, h.p.sublist (List.drop_sublist _ _)⟩, fun a ha b hb => ?_⟩
    rcases List.mem_cons.mp hb with rfl | hb
    · exact c1 a ha
    · have := h.p
      rw [← List.take_append_drop k l] at this
      exact (List.pairwise_append.mp this).2.2 a ha b hb
theorem lc_small (s0 s1 s2 s3 s5 s6 s8 : Sl) (n : Nat) (n1 : 1 ≤ n) (n24 : n ≤ 24) (z : Zs) : ∀ (k i : Nat) (acc : List (Int × Int)) (Q : List D → Rho → Zs → Prop) (X : Er → Rho → Zs → Prop), 1 ≤ i → i + k = n + 1 → acc.length ≤ i → Ord acc → (∀ p ∈ acc, ole p (rr (i : Int) n)) →
    (∀ l : List (Int × Int), Ord l → l.length ≤ n + 1 → Q (l.map prD) [s0, s1, s2, s3, Sl.fr (.int (n : Int)), s5, s6, Sl.no, s8] z) →
    lcL [7] (gN 7) (ep true) p3__law_ds_openings (rngD (i : Int) k) (acc.map prD) [s0, s1, s2, s3, Sl.fr (.int (n : Int)), s5, s6, Sl.no, s8] Q X z := by
  intro k
  induction k with
  | zero => intro i acc Q X i1 e al ho _ h; simpa [rngD] using h acc ho (by omega)
  | succ k ih =>
    intro i acc Q X i1 e al ho hp h
    simp only [rngD]
    rw [lcL_cons]
    simp
    rw [p3__law_ds_openings]
    simp
    refine w__law_ds_ratio (i : Int) (n : Int) _ _ _ (by omega) (by omega) ?_
    refine ⟨by omega, ?_⟩
    simp only [wipeR, List.set_cons_zero, List.set_cons_succ]
    have e2 : acc.map prD ++ [rat (i : Int) (n : Int)] = (acc ++ [rr (i : Int) (n : Int)]).map prD := by rw [rat_rr]; simp
    have e3 : (i : Int) + 1 = ((i + 1 : Nat) : Int) := by omega
    rw [e2, e3]
    refine ih (i + 1) _ Q X (by omega) (by omega) (by simp; omega) ⟨fun p hq => ?_, ?_⟩ (fun p hq => ?_) h
    · rcases List.mem_append.mp hq with hq | hq
      · exact ho.s p hq
      · rw [List.mem_singleton.mp hq]; exact osm_rr (by omega) (by omega) (by omega)
    · rw [List.pairwise_append]
      refine ⟨ho.p, List.pairwise_singleton _ _, fun a ha b hb => ?_⟩
      rw [List.mem_singleton.mp hb]
      exact hp a ha
    · have st : ole (rr (i : Int) n) (rr ((i + 1 : Nat) : Int) n) := ole_rr (by omega) (by omega)
      rcases List.mem_append.mp hq with hq | hq
      · exact ole_trans (ho.s p hq).d1 (rr_d1 (by omega)) (rr_d1 (by omega)) (hp p hq) st
      · rw [List.mem_singleton.mp hq]; exact st
theorem lc_spot (x : Int × Int) (hx : Osm x) (s0 s1 s2 s4 s5 s6 s7 : Sl) (z : Zs) : ∀ (l acc : List (Int × Int)) (Q : List D → Rho → Zs → Prop) (X : Er → Rho → Zs → Prop), (∀ p ∈ l, Osm p) → acc.length + l.length < 16777216 →
    Q ((acc ++ l.filter fun p => olt p x).map prD) [s0, s1, s2, Sl.fr (prD x), s4, s5, s6, s7, Sl.no] z →
    lcL [8] (gN 8) p1__law_ds_openings p0__law_ds_openings (l.map prD) (acc.map prD) [s0, s1, s2, Sl.fr (prD x), s4, s5, s6, s7, Sl.no] Q X z := by
  intro l
  induction l with
  | nil => intro acc Q X _ _ h; simpa using h
  | cons p l ih =>
    intro acc Q X hl hn h
    have po := (hl p List.mem_cons_self).sp
    have xo := hx.sp
    simp only [List.length_cons] at hn
    simp only [List.map_cons]
    rw [lcL_cons]
    simp
    rw [p1__law_ds_openings]
    have m1 : ∀ {x : Int} (y : Int), x.natAbs ≤ 1000 → MulC x y := fun y h => mulC_a (by omega)
    have ex : prD x = .tup [.int x.1, .int x.2] := rfl
    have ep : prD p = .tup [.int p.1, .int p.2] := rfl
    simp [ex, ep, m1 _ po.1, m1 _ xo.1]
    by_cases k : p.1 * x.2 < x.1 * p.2
    · have kt : olt p x = true := decide_eq_true k
      rw [List.filter_cons_of_pos (p := fun p => olt p x) kt] at h
      simp [k]
      rw [p0__law_ds_openings]
      simp
      refine ⟨by omega, ?_⟩
      simp only [wipeR, List.set_cons_zero, List.set_cons_succ]
      have e : acc.map prD ++ [D.tup [.int p.1, .int p.2]] = (acc ++ [p]).map prD := by simp [prD]
      rw [e]
      refine ih (acc ++ [p]) Q X (fun q hq => hl q (List.mem_cons_of_mem _ hq)) (by simp; omega) ?_
      simpa using h
    · have kt : ¬ olt p x = true := fun t => k (of_decide_eq_true t)
      rw [List.filter_cons_of_neg (p := fun p => olt p x) kt] at h
      simp [k]
      simp only [wipeR, List.set_cons_zero, List.set_cons_succ]
      exact ih acc Q X (fun q hq => hl q (List.mem_cons_of_mem _ hq)) (by omega) h
theorem cut_two (l : List (Int × Int)) (k : Nat) (h : k ≤ l.length) : DL.cutD (l.map prD) none (some (k : Int)) = (l.take k).map prD ∧ DL.cutD (l.map prD) (some (k : Int)) none = (l.drop k).map prD := by
  have x1 : HT.sIx (l.map prD).length 0 none = 0 := rfl
  have x2 : HT.sIx (l.map prD).length (l.map prD).length (some (k : Int)) = min k (l.map prD).length := HT.sIx_nat ..
  have x3 : HT.sIx (l.map prD).length (l.map prD).length none = (l.map prD).length := rfl
  have x4 : HT.sIx (l.map prD).length 0 (some (k : Int)) = min k (l.map prD).length := HT.sIx_nat ..
  unfold DL.cutD
  rw [x1, x2, x3, x4]
  constructor
  · simp [List.map_take]
  · have e1 : min k (l.map prD).length = k := by simp; omega
    rw [e1, List.map_drop]
    exact List.take_of_length_le (by simp)
theorem wl_more (s0 s1 s4 s5 s7 : Sl) (z : Zs) : ∀ (l : List (Int × Int)) (f : List (Int × Int)) (s2' : Sl) (t3 t6 : Sl) (Q : Fl → Rho → Zs → Prop) (X : Er → Rho → Zs → Prop), (s2' = Sl.own (f.map prD) ∨ s2' = Sl.fr (.lst (f.map prD))) → (∀ p ∈ l, Osm p) → Ord f → f.length + l.length < 1000 →
    (∀ (g : List (Int × Int)) s2' t3 t6, (s2' = Sl.own (g.map prD) ∨ s2' = Sl.fr (.lst (g.map prD))) → Ord g → g.length ≤ f.length + l.length → Q .nx [s0, s1, s2', t3, s4, s5, t6, s7, Sl.no] z) →
    forL (gN 3) p2__law_ds_openings (l.map prD) [s0, s1, s2', t3, s4, s5, t6, s7, Sl.no] Q X z := by
  intro l
  induction l with
  | nil => intro f s2' t3 t6 Q X hs _ ho _ h; simpa using h f s2' t3 t6 hs ho (by simp)
  | cons x l ih =>
    intro f s2' t3 t6 Q X hs hl ho hn h
    have xo := hl x List.mem_cons_self
    simp only [List.length_cons] at hn
    simp only [List.map_cons, forL_cons]
    simp
    rw [p2__law_ds_openings]
    have fl : (f.filter fun p => olt p x).length ≤ f.length := List.length_filter_le _ _
    have ins := ho.ins xo
    obtain ⟨c1, c2⟩ := cut_two f (f.filter fun p => olt p x).length fl
    have sp := fun (s2 : Sl) (t6 : Sl) => lc_spot x xo s0 s1 s2 s4 s5 t6 s7 z f [] 
    have go : ∀ t6', forL (gN 3) p2__law_ds_openings (l.map prD) [s0, s1, Sl.fr (.lst ((f.take (f.filter fun p => olt p x).length ++ x :: f.drop (f.filter fun p => olt p x).length).map prD)), Sl.fr (prD x), s4, s5, t6', s7, Sl.no] Q X z := fun t6' => by
      refine ih _ _ _ _ Q X (.inr rfl) (fun q hq => hl q (List.mem_cons_of_mem _ hq)) ins ?_ fun g s2' t3 t6 a b c => h g s2' t3 t6 a b ?_
      · simp; omega
      · simp at c ⊢; omega
    rcases hs with rfl | rfl
    all_goals
      simp
      simp only [wipeR, List.set_cons_zero, List.set_cons_succ]
      refine sp _ _ _ _ ho.s (by simp; omega) ?_
      rw [List.nil_append]
      simp [c1, c2]
      refine ⟨by omega, by omega, ?_⟩
      have := go (Sl.fr (.int ((f.filter fun p => olt p x).length : Int)))
      simpa using this
end LW

namespace LW
open PySem PySem.Spec PyProof.Rows L2 DL
/-! ## k88: the openings, whole -/
theorem wl_four (s2 s3 s4 s6 s7 s8 : Sl) (cs : List MC) : ∀ (k : Nat) (i : Int) (acc : List (Int × Int)) (t1 : Sl) (m : Int) (Q : Fl → Rho → Zs → Prop) (X : Er → Rho → Zs → Prop), (∀ p ∈ acc, Osm p) → acc.length + k ≤ 100 → m + k < 10 ^ 17 →
    (∀ (l : List (Int × Int)) t1 m', (∀ p ∈ l, Osm p) → l.length = acc.length + k → m' ≤ m + k → Q .nx [Sl.fr .cel, t1, s2, s3, s4, Sl.own (l.map prD), s6, s7, s8] ⟨m', cs⟩) →
    forL (gN 1) p4__law_ds_openings (rngD i k) [Sl.fr .cel, t1, s2, s3, s4, Sl.own (acc.map prD), s6, s7, s8] Q X ⟨m, cs⟩ := by
  intro k
  induction k with
  | zero => intro i acc t1 m Q X ha _ _ h; simpa [rngD] using h acc t1 m ha rfl (by omega)
  | succ k ih =>
    intro i acc t1 m Q X ha hl hm h
    simp only [rngD, forL_cons]
    simp
    rw [p4__law_ds_openings]
    simp
    refine w__law_coin 997 _ _ _ (by omega) (by omega) (by show m < _; omega) fun c m1 c0 c1 (h1 : m1 ≤ m + 1) => ?_
    simp
    refine w__law_ds_ratio (1 + c) 997 _ _ _ (by omega) (by omega) ?_
    refine ⟨by omega, ?_⟩
    have e2 : acc.map prD ++ [rat (1 + c) 997] = (acc ++ [rr (1 + c) 997]).map prD := by rw [rat_rr]; simp
    rw [e2]
    refine ih (i + 1) _ _ m1 Q X (fun p hp => ?_) (by simp; omega) (by omega) fun l t1 m' g1 g2 g3 => h l t1 m' g1 (by simp at g2; omega) (by omega)
    rcases List.mem_append.mp hp with hp | hp
    · exact ha p hp
    · rw [List.mem_singleton.mp hp]; exact osm_rr (by omega) (by omega) (by omega)
theorem w__law_ds_openings (m : Int) (cs : List MC) (hm : m < 10 ^ 16) (Q : D → Zs → Prop) (X : Er → Zs → Prop) (h : ∀ (l : List (Int × Int)) m', Ord l → l.length ≤ 100 → m' ≤ m + 10 → Q (.lst (l.map prD)) ⟨m', cs⟩) : m__law_ds_openings [.cel] Q X ⟨m, cs⟩ := by
  rw [me__law_ds_openings]
  simp [s__law_ds_openings]
  refine w__law_coin 24 _ _ _ (by omega) (by omega) (by show m < _; omega) fun c m1 c0 c1 (h1 : m1 ≤ m + 1) => ?_
  obtain ⟨n, hn⟩ := Int.eq_ofNat_of_zero_le (show 0 ≤ 1 + c by omega)
  simp
  rw [hn]
  refine wl_four _ _ _ _ _ _ cs 4 0 [] _ m1 _ _ (fun _ k => nomatch k) (by simp) (by omega) fun l t1 m2 g1 g2 g3 => ?_
  simp at g2
  simp
  have en : ((n : Int) + 1 - 1).toNat = n := by omega
  refine ⟨by omega, ?_⟩
  try simp only [wipeR, List.set_cons_zero, List.set_cons_succ]
  refine lc_small _ _ _ _ _ _ _ n (by omega) (by omega) _ n 1 [] _ _ (by omega) (by omega) (by simp) ⟨(fun _ k => nomatch k), List.Pairwise.nil⟩ (fun _ k => nomatch k) fun f fo fl => ?_
  simp
  refine wl_more _ _ _ _ _ _ l f _ _ _ _ _ (.inl rfl) g1 fo (by omega) fun g s2 t3 t6 e go gl => ?_
  rcases e with rfl | rfl
  · simp
    exact h g m2 go (by omega) (by omega)
  · simp
    exact h g m2 go (by omega) (by omega)
end LW

namespace LW
open PySem PySem.Spec PyProof.Rows L2 DL
/-! ## what repr shows of plain data, it shows of nothing else -/
def tL (x : Str) : List Nat := x.cps.toList
theorem tL_app (a b : Str) : tL (a ++ b) = tL a ++ tL b := cps_toList_append a b
def sh (d : PyData) : List Nat := tL d.shown
def rs (k : Nat) : List PyData → List Nat
  | [] => [k]
  | d :: r => 44 :: 32 :: (sh d ++ rs k r)
mutual
def plb : PyData → Bool
  | .none => true
  | .bool _ => true
  | .int _ => true
  | .str x => (tL x).all fun c => decide (97 ≤ c ∧ c ≤ 122)
  | .list xs => plbA xs
  | .tuple xs => plbA xs
  | .dict _ => false
def plbA : List PyData → Bool
  | [] => true
  | x :: xs => plb x && plbA xs
end
theorem plbA_iff : ∀ xs : List PyData, plbA xs = true ↔ ∀ x ∈ xs, plb x = true
  | [] => by simp [plbA]
  | x :: xs => by simp [plbA, plbA_iff xs]
theorem tL_s (s : String) : tL (Str.ofString s) = s.toList.map Char.toNat := signs_ofString s
/-! the shapes -/
theorem textFrom_tl : ∀ (ts : List Str) (k : Nat) (acc : Str), tL (textFrom (k + 1) acc ts) = tL acc ++ ts.flatMap fun t => 44 :: 32 :: tL t
  | [], k, acc => by simp [textFrom]
  | t :: r, k, acc => by
    rw [textFrom, textFrom_tl r (k + 1), if_pos (by omega), tL_app, tL_app]
    have e : tL ((", " : String) : Str) = [44, 32] := by decide +kernel
    rw [e]
    simp
theorem shAll (r : List PyData) : ((PyData.shownAll r).flatMap fun t => 44 :: 32 :: tL t) = r.flatMap fun d => 44 :: 32 :: sh d := by
  rw [shownAll_eq_map, List.flatMap_map]
  rfl
theorem rs_flat (k : Nat) : ∀ r : List PyData, rs k r = (r.flatMap fun d => 44 :: 32 :: sh d) ++ [k]
  | [] => rfl
  | d :: r => by rw [rs, rs_flat k r]; simp
theorem sh_l0 : sh (.list []) = [91, 93] := by decide +kernel
theorem sh_l1 (d : PyData) (r : List PyData) : sh (.list (d :: r)) = 91 :: (sh d ++ rs 93 r) := by
  have e1 : tL (("[" : String) : Str) = [91] := by decide +kernel
  have e2 : tL (("]" : String) : Str) = [93] := by decide +kernel
  have e3 : tL (("" : String) : Str) = [] := by decide +kernel
  show tL (PyData.shown (.list (d :: r))) = _
  rw [PyData.shown, PyData.shownAll, listText, textFrom, tL_app, textFrom_tl, shAll, rs_flat, tL_app, tL_app, if_neg (by omega), e1, e2, e3]
  simp [sh]
theorem join_tl : ∀ (t : Str) (r : List Str), tL (Str.join ((", " : String) : Str) (t :: r)) = tL t ++ r.flatMap fun t => 44 :: 32 :: tL t
  | t, [] => by rw [PyProof.Rows.join_one]; simp
  | t, s :: r => by
    rw [PyProof.Rows.join_cons_cons, tL_app, tL_app, join_tl s r]
    have e : tL ((", " : String) : Str) = [44, 32] := by decide +kernel
    rw [e]
    simp
theorem sh_t0 : sh (.tuple []) = [40, 41] := by decide +kernel
theorem sh_t1 (d : PyData) : sh (.tuple [d]) = 40 :: (sh d ++ [44, 41]) := by
  have e1 : tL (("(" : String) : Str) = [40] := by decide +kernel
  have e2 : tL ((",)" : String) : Str) = [44, 41] := by decide +kernel
  show tL (PyData.shown (.tuple [d])) = _
  rw [PyData.shown, PyData.shownAll, PyData.shownAll, tupleText, tL_app, tL_app, PyProof.Rows.join_one, if_pos (by rfl), e1, e2]
  simp [sh]
theorem sh_t2 (d e : PyData) (r : List PyData) : sh (.tuple (d :: e :: r)) = 40 :: (sh d ++ rs 41 (e :: r)) := by
  have e1 : tL (("(" : String) : Str) = [40] := by decide +kernel
  have e2 : tL ((")" : String) : Str) = [41] := by decide +kernel
  show tL (PyData.shown (.tuple (d :: e :: r))) = _
  have ln : ((PyData.shownAll (d :: e :: r)).length == 1) = false := by
    rw [shownAll_eq_map]; simp
  rw [PyData.shown, tupleText, ln, if_neg (by decide), tL_app, tL_app, e1, e2, rs_flat]
  have : tL (Str.join ((", " : String) : Str) (PyData.shownAll (d :: e :: r))) = sh d ++ (e :: r).flatMap fun d => 44 :: 32 :: sh d := by
    rw [PyData.shownAll, join_tl, shAll]
    rfl
  rw [this]
  simp
theorem prn : ∀ c : Nat, 97 ≤ c → c ≤ 122 → Unicode.isPrintable c = true := by
  have h : ((List.range 123).all fun c => decide (c < 97) || Unicode.isPrintable c) = true := by decide +kernel
  intro c a b
  have := List.all_eq_true.mp h c (List.mem_range.mpr (by omega))
  rw [decide_eq_false (by omega), Bool.false_or] at this
  exact this
theorem rfold (q : Nat) : ∀ (l : List Nat) (acc : Array Nat), (∀ c ∈ l, Builtin.Str.reprChar q c = [c]) → (l.foldl (fun out c => out ++ (Builtin.Str.reprChar q c).toArray) acc).toList = acc.toList ++ l
  | [], acc, _ => by simp
  | c :: l, acc, h => by
    rw [List.foldl_cons, rfold q l _ fun d hd => h d (List.mem_cons_of_mem _ hd), h c List.mem_cons_self]
    simp
theorem sh_s {x : Str} (h : ∀ c ∈ tL x, 97 ≤ c ∧ c ≤ 122) : sh (.str x) = 39 :: (tL x ++ [39]) := by
  have q : reprQuote x = 39 := by
    unfold reprQuote
    rw [if_neg]
    intro k
    rw [Bool.and_eq_true] at k
    have := h 39 (by simpa [tL] using k.1)
    omega
  have rc : ∀ c ∈ tL x, Builtin.Str.reprChar 39 c = [c] := fun c hc => by
    obtain ⟨a, b⟩ := h c hc
    have p := prn c a b
    unfold Builtin.Str.reprChar
    have n1 : (c == 39) = false := by simp; omega
    have n2 : (c == 92) = false := by simp; omega
    have n3 : (c == 10) = false := by simp; omega
    have n4 : (c == 13) = false := by simp; omega
    have n5 : (c == 9) = false := by simp; omega
    simp only [n1, n2, n3, n4, n5, p, Bool.or_false, Bool.false_eq_true, if_false, if_true]
  show tL (PyData.shown (.str x)) = _
  rw [PyData.shown_str]
  unfold reprText
  rw [q]
  show Array.toList _ = _
  rw [Array.toList_push, ← Array.foldl_toList]
  rw [show x.cps.toList = tL x from rfl, rfold 39 _ _ rc]
  simp
theorem sh_i (i : Int) : sh (.int i) = if 0 ≤ i then TL.numL i.toNat else 45 :: TL.numL (-i).toNat := by
  show tL (PyData.shown (.int i)) = _
  rw [PyData.shown_int]
  by_cases h : 0 ≤ i
  · rw [if_pos h]
    obtain ⟨n, rfl⟩ := Int.eq_ofNat_of_zero_le h
    exact TL.tl_num n
  · rw [if_neg h, Int.toString_eq_repr, Int.repr_eq_if, if_neg h]
    show tL (Str.ofString _) = _
    rw [tL_s, String.toList_append, Nat.toList_repr, List.map_append]
    rfl
/-- what may stand behind -/
def Dlm (u : List Nat) : Prop := u = [] ∨ ∃ k w, u = k :: w ∧ (k = 44 ∨ k = 41 ∨ k = 93)
theorem num_end : ∀ {a b u v : List Nat}, NumText.AllDigits a → NumText.AllDigits b → Dlm u → Dlm v → a ++ u = b ++ v → a = b ∧ u = v
  | [], [], u, v, _, _, _, _, h => ⟨rfl, h⟩
  | [], c :: b, u, v, _, hb, hu, _, h => by
    exfalso
    have d := hb c List.mem_cons_self
    rcases hu with rfl | ⟨k, w, rfl, hk⟩
    · simp at h
    · simp only [List.nil_append, List.cons_append, List.cons.injEq] at h
      omega
  | c :: a, [], u, v, ha, _, _, hv, h => by
    exfalso
    have d := ha c List.mem_cons_self
    rcases hv with rfl | ⟨k, w, rfl, hk⟩
    · simp at h
    · simp only [List.nil_append, List.cons_append, List.cons.injEq] at h
      omega
  | c :: a, e :: b, u, v, ha, hb, hu, hv, h => by
    simp only [List.cons_append, List.cons.injEq] at h
    obtain ⟨rfl, h⟩ := h
    obtain ⟨rfl, e⟩ := num_end (fun x hx => ha x (List.mem_cons_of_mem _ hx)) (fun x hx => hb x (List.mem_cons_of_mem _ hx)) hu hv h
    exact ⟨rfl, e⟩
theorem str_end : ∀ {a b u v : List Nat}, 39 ∉ a → 39 ∉ b → a ++ 39 :: u = b ++ 39 :: v → a = b ∧ u = v
  | [], [], u, v, _, _, h => ⟨rfl, by simpa using h⟩
  | [], c :: b, u, v, _, hb, h => by
    exfalso
    simp only [List.nil_append, List.cons_append, List.cons.injEq] at h
    exact hb (by rw [h.1]; exact List.mem_cons_self)
  | c :: a, [], u, v, ha, _, h => by
    exfalso
    simp only [List.nil_append, List.cons_append, List.cons.injEq] at h
    exact ha (by rw [← h.1]; exact List.mem_cons_self)
  | c :: a, e :: b, u, v, ha, hb, h => by
    simp only [List.cons_append, List.cons.injEq] at h
    obtain ⟨rfl, h⟩ := h
    obtain ⟨rfl, e⟩ := str_end (fun x => ha (List.mem_cons_of_mem _ x)) (fun x => hb (List.mem_cons_of_mem _ x)) h
    exact ⟨rfl, e⟩
/-- the first sign tells the kind -/
def kd : PyData → Nat
  | .none => 0
  | .bool true => 1
  | .bool false => 2
  | .int _ => 3
  | .str _ => 4
  | .list _ => 5
  | .tuple _ => 6
  | .dict _ => 7
def hk (c : Nat) : Nat := if c = 78 then 0 else if c = 84 then 1 else if c = 70 then 2 else if c = 39 then 4 else if c = 91 then 5 else if c = 40 then 6 else if c = 45 ∨ 48 ≤ c ∧ c ≤ 57 then 3 else 9
theorem kd_le (d : PyData) : kd d ≤ 7 := by
  cases d with
  | bool b => cases b <;> decide
  | _ => simp [kd]
theorem sh_kd : ∀ d : PyData, plb d = true → ∃ c w, sh d = c :: w ∧ hk c = kd d
  | .none, _ => ⟨78, [111, 110, 101], by decide +kernel, rfl⟩
  | .bool true, _ => ⟨84, [114, 117, 101], by decide +kernel, rfl⟩
  | .bool false, _ => ⟨70, [97, 108, 115, 101], by decide +kernel, rfl⟩
  | .int i, _ => by
    rw [sh_i]
    split
    · have n := TL.numL_digits i.toNat
      have ne := TL.numL_ne i.toNat
      cases e : TL.numL i.toNat with
      | nil => exact absurd e ne
      | cons c w =>
        rw [e] at n
        have := n c List.mem_cons_self
        refine ⟨c, w, rfl, ?_⟩
        unfold hk kd
        rw [if_neg (by omega), if_neg (by omega), if_neg (by omega), if_neg (by omega), if_neg (by omega), if_neg (by omega), if_pos (by omega)]
    · exact ⟨45, _, rfl, rfl⟩
  | .str x, h => by
    rw [sh_s (by simpa [plb] using h)]
    exact ⟨39, _, rfl, rfl⟩
  | .list [], _ => ⟨91, _, sh_l0, rfl⟩
  | .list (d :: r), _ => ⟨91, _, sh_l1 d r, rfl⟩
  | .tuple [], _ => ⟨40, _, sh_t0, rfl⟩
  | .tuple [d], _ => ⟨40, _, sh_t1 d, rfl⟩
  | .tuple (d :: e :: r), _ => ⟨40, _, sh_t2 d e r, rfl⟩
  | .dict _, h => by simp [plb] at h
theorem sh_no {d : PyData} (h : plb d = true) {k : Nat} (hk' : hk k = 9) {u w : List Nat} : sh d ++ u ≠ k :: w := fun e => by
  obtain ⟨c, w', e1, k1⟩ := sh_kd d h
  rw [e1] at e
  simp only [List.cons_append, List.cons.injEq] at e
  rw [e.1, hk'] at k1
  have := kd_le d
  omega
theorem rs_dl (k : Nat) (hk : k = 41 ∨ k = 93) (r : List PyData) (u : List Nat) : Dlm (rs k r ++ u) := by
  cases r with
  | nil => exact .inr ⟨k, u, rfl, by omega⟩
  | cons d r => exact .inr ⟨44, _, rfl, .inl rfl⟩
def Inj (n : Nat) : Prop := ∀ d e u v, sizeOf d < n → plb d = true → plb e = true → Dlm u → Dlm v → sh d ++ u = sh e ++ v → d = e ∧ u = v
theorem rs_inj {n : Nat} (H : Inj n) (k : Nat) (hk : k = 41 ∨ k = 93) : ∀ (ds es : List PyData) (u v : List Nat), (∀ d ∈ ds, sizeOf d < n ∧ plb d = true) → (∀ d ∈ es, plb d = true) → rs k ds ++ u = rs k es ++ v → ds = es ∧ u = v
  | [], [], u, v, _, _, h => ⟨rfl, by simpa [rs] using h⟩
  | [], e :: es, u, v, _, _, h => by
    exfalso
    simp only [rs, List.cons_append, List.cons.injEq] at h
    omega
  | d :: ds, [], u, v, _, _, h => by
    exfalso
    simp only [rs, List.cons_append, List.cons.injEq] at h
    omega
  | d :: ds, e :: es, u, v, hd, he, h => by
    simp only [rs, List.cons_append, List.cons.injEq, true_and, List.append_assoc] at h
    obtain ⟨a, b⟩ := hd d List.mem_cons_self
    obtain ⟨e1, h1⟩ := H d e _ _ a b (he e List.mem_cons_self) (rs_dl k hk ds u) (rs_dl k hk es v) h
    obtain ⟨e2, h2⟩ := rs_inj H k hk ds es u v (fun x hx => hd x (List.mem_cons_of_mem _ hx)) (fun x hx => he x (List.mem_cons_of_mem _ hx)) h1
    exact ⟨by rw [e1, e2], h2⟩
theorem inj_all : ∀ n, Inj n
  | 0 => fun d e u v h => absurd h (by omega)
  | n + 1 => by
    intro d e u v hn hd he hu hv h
    have H := inj_all n
    have kk : kd d = kd e := by
      obtain ⟨c, w, e1, k1⟩ := sh_kd d hd
      obtain ⟨c', w', e2, k2⟩ := sh_kd e he
      rw [e1, e2] at h
      simp only [List.cons_append, List.cons.injEq] at h
      rw [← k1, ← k2, h.1]
    match d, e, kk with
    | .none, .none, _ => exact ⟨rfl, List.append_cancel_left h⟩
    | .bool true, .bool true, _ => exact ⟨rfl, List.append_cancel_left h⟩
    | .bool false, .bool false, _ => exact ⟨rfl, List.append_cancel_left h⟩
    | .int i, .int j, _ =>
      rw [sh_i, sh_i] at h
      have dg := fun n : Nat => TL.numL_digits n
      have fst : ∀ n w, TL.numL n ≠ 45 :: w := fun n w e => by
        have := dg n 45 (by rw [e]; exact List.mem_cons_self)
        omega
      have fst' : ∀ n w z, TL.numL n ++ z ≠ 45 :: w := fun n w z e => by
        cases q : TL.numL n with
        | nil => exact TL.numL_ne n q
        | cons c t =>
          rw [q] at e
          simp only [List.cons_append, List.cons.injEq] at e
          exact fst n t (by rw [q, e.1])
      split at h <;> split at h
      · obtain ⟨a, b⟩ := num_end (dg _) (dg _) hu hv h
        have := TL.numL_inj a
        exact ⟨by congr 1; omega, b⟩
      · exact absurd h (fst' _ _ _)
      · exact absurd h.symm (fst' _ _ _)
      · simp only [List.cons_append, List.cons.injEq, true_and] at h
        obtain ⟨a, b⟩ := num_end (dg _) (dg _) hu hv h
        have := TL.numL_inj a
        exact ⟨by congr 1; omega, b⟩
    | .str x, .str y, _ =>
      have hx : ∀ c ∈ tL x, 97 ≤ c ∧ c ≤ 122 := by simpa [plb] using hd
      have hy : ∀ c ∈ tL y, 97 ≤ c ∧ c ≤ 122 := by simpa [plb] using he
      rw [sh_s hx, sh_s hy] at h
      simp only [List.cons_append, List.cons.injEq, true_and, List.append_assoc, List.nil_append] at h
      obtain ⟨a, b⟩ := str_end (fun k => by have := hx 39 k; omega) (fun k => by have := hy 39 k; omega) h
      refine ⟨?_, b⟩
      congr 1
      cases x; cases y
      congr 1
      exact Array.toList_inj.mp a
    | .list [], .list [], _ => exact ⟨rfl, List.append_cancel_left h⟩
    | .list [], .list (b :: s), _ =>
      exfalso
      rw [sh_l0, sh_l1] at h
      simp only [List.cons_append, List.cons.injEq, true_and, List.append_assoc, List.nil_append] at h
      have pb : plb b = true := by simp only [plb, plbA, Bool.and_eq_true] at he; exact he.1
      obtain ⟨c, w, e1, k1⟩ := sh_kd b pb
      rw [e1] at h
      simp only [List.cons_append, List.cons.injEq] at h
      rw [← h.1] at k1
      have := kd_le b
      have n : hk 93 = 9 := rfl
      omega
    | .list (a :: r), .list [], _ =>
      exfalso
      rw [sh_l0, sh_l1] at h
      simp only [List.cons_append, List.cons.injEq, true_and, List.append_assoc, List.nil_append] at h
      have pb : plb a = true := by simp only [plb, plbA, Bool.and_eq_true] at hd; exact hd.1
      obtain ⟨c, w, e1, k1⟩ := sh_kd a pb
      rw [e1] at h
      simp only [List.cons_append, List.cons.injEq] at h
      rw [h.1] at k1
      have := kd_le a
      have n : hk 93 = 9 := rfl
      omega
    | .list (a :: r), .list (b :: s), _ =>
      rw [sh_l1, sh_l1] at h
      simp only [List.cons_append, List.cons.injEq, true_and, List.append_assoc] at h
      simp only [plb, plbA, Bool.and_eq_true, plbA_iff] at hd he
      simp only [PyData.list.sizeOf_spec, List.cons.sizeOf_spec] at hn
      obtain ⟨e1, h1⟩ := H a b _ _ (by omega) hd.1 he.1 (rs_dl 93 (.inr rfl) r u) (rs_dl 93 (.inr rfl) s v) h
      obtain ⟨e2, h2⟩ := rs_inj H 93 (.inr rfl) r s u v (fun x hx => ⟨by have := List.sizeOf_lt_of_mem hx; omega, hd.2 x hx⟩) he.2 h1
      exact ⟨by rw [e1, e2], h2⟩
    | .tuple [], .tuple [], _ => exact ⟨rfl, List.append_cancel_left h⟩
    | .tuple [], .tuple [b], _ =>
      exfalso
      rw [sh_t0, sh_t1] at h
      simp only [List.cons_append, List.cons.injEq, true_and, List.append_assoc, List.nil_append] at h
      exact sh_no (by simp only [plb, plbA, Bool.and_eq_true] at he; exact he.1) rfl h.symm
    | .tuple [], .tuple (b :: b' :: s), _ =>
      exfalso
      rw [sh_t0, sh_t2] at h
      simp only [List.cons_append, List.cons.injEq, true_and, List.append_assoc, List.nil_append] at h
      exact sh_no (by simp only [plb, plbA, Bool.and_eq_true] at he; exact he.1) rfl h.symm
    | .tuple [a], .tuple [], _ =>
      exfalso
      rw [sh_t0, sh_t1] at h
      simp only [List.cons_append, List.cons.injEq, true_and, List.append_assoc, List.nil_append] at h
      exact sh_no (by simp only [plb, plbA, Bool.and_eq_true] at hd; exact hd.1) rfl h
    | .tuple (a :: a' :: r), .tuple [], _ =>
      exfalso
      rw [sh_t0, sh_t2] at h
      simp only [List.cons_append, List.cons.injEq, true_and, List.append_assoc, List.nil_append] at h
      exact sh_no (by simp only [plb, plbA, Bool.and_eq_true] at hd; exact hd.1) rfl h
    | .tuple [a], .tuple [b], _ =>
      rw [sh_t1, sh_t1] at h
      simp only [List.cons_append, List.cons.injEq, true_and, List.append_assoc] at h
      simp only [plb, plbA, Bool.and_eq_true] at hd he
      simp only [PyData.tuple.sizeOf_spec, List.cons.sizeOf_spec] at hn
      obtain ⟨e1, h1⟩ := H a b _ _ (by omega) hd.1 he.1 (.inr ⟨44, _, rfl, .inl rfl⟩) (.inr ⟨44, _, rfl, .inl rfl⟩) h
      exact ⟨by rw [e1], by simpa using h1⟩
    | .tuple [a], .tuple (b :: b' :: s), _ =>
      exfalso
      rw [sh_t1, sh_t2] at h
      simp only [List.cons_append, List.cons.injEq, true_and, List.append_assoc] at h
      simp only [plb, plbA, Bool.and_eq_true] at hd he
      simp only [PyData.tuple.sizeOf_spec, List.cons.sizeOf_spec] at hn
      obtain ⟨_, h1⟩ := H a b _ _ (by omega) hd.1 he.1 (.inr ⟨44, _, rfl, .inl rfl⟩) (rs_dl 41 (.inl rfl) (b' :: s) v) h
      simp [rs] at h1
    | .tuple (a :: a' :: r), .tuple [b], _ =>
      exfalso
      rw [sh_t1, sh_t2] at h
      simp only [List.cons_append, List.cons.injEq, true_and, List.append_assoc] at h
      simp only [plb, plbA, Bool.and_eq_true] at hd he
      simp only [PyData.tuple.sizeOf_spec, List.cons.sizeOf_spec] at hn
      obtain ⟨_, h1⟩ := H a b _ _ (by omega) hd.1 he.1 (rs_dl 41 (.inl rfl) (a' :: r) u) (.inr ⟨44, _, rfl, .inl rfl⟩) h
      simp [rs] at h1
    | .tuple (a :: a' :: r), .tuple (b :: b' :: s), _ =>
      rw [sh_t2, sh_t2] at h
      simp only [List.cons_append, List.cons.injEq, true_and, List.append_assoc] at h
      simp only [plb, plbA_iff, List.mem_cons, forall_eq_or_imp] at hd he
      simp only [PyData.tuple.sizeOf_spec, List.cons.sizeOf_spec] at hn
      obtain ⟨e0, h1⟩ := H a b _ _ (by omega) hd.1 he.1 (rs_dl 41 (.inl rfl) (a' :: r) u) (rs_dl 41 (.inl rfl) (b' :: s) v) h
      obtain ⟨e1, h2⟩ := rs_inj H 41 (.inl rfl) (a' :: r) (b' :: s) u v (fun x hx => by
        rcases List.mem_cons.mp hx with rfl | hx
        · exact ⟨by omega, hd.2.1⟩
        · exact ⟨by have := List.sizeOf_lt_of_mem hx; omega, hd.2.2 x hx⟩) (fun x hx => by
        rcases List.mem_cons.mp hx with rfl | hx
        · exact he.2.1
        · exact he.2.2 x hx) h1
      rw [e0, e1]
      exact ⟨rfl, h2⟩
theorem shown_inj {d e : PyData} (hd : plb d = true) (he : plb e = true) (h : d.shown = e.shown) : d = e :=
  (inj_all _ d e [] [] (Nat.lt_succ_self _) hd he (.inl rfl) (.inl rfl) (by show sh d ++ [] = sh e ++ []; unfold sh; rw [h])).1
end LW

namespace LW
open PySem PySem.Spec PyProof.Rows L2 DL
/-! ## k88: what is compared, as a text -/
def wyD (y : D) : Prop := (∃ w, (w = ("" : Str) ∨ nmOk w) ∧ y = .str w) ∨ ∃ a, nmOk a ∧ y = unm a
theorem why_wy {L : Ln} {d : Dd} (hd : d.Ok) {y : D} (h : L.why d = some y) : wyD y := by
  have b : nmOk "beyond" := ⟨by decide +kernel, by decide +kernel, by decide +kernel⟩
  have n : nmOk "nothing" := ⟨by decide +kernel, by decide +kernel, by decide +kernel⟩
  cases d <;> simp only [Ln.why] at h
  all_goals first | cases h; done | skip
  · split at h <;> cases h; exact .inl ⟨_, .inr n, rfl⟩
  · split at h <;> cases h; exact .inl ⟨_, .inr b, rfl⟩
  · split at h <;> cases h; exact .inr ⟨_, hd, rfl⟩
  · split at h
    · cases h; exact .inr ⟨_, hd.1, rfl⟩
    · cases h; exact .inr ⟨_, hd.2, rfl⟩
    · split at h <;> cases h; exact .inl ⟨_, .inr n, rfl⟩
structure RFine (r : Ln × Str × Nat × D) : Prop where
  f : r.1.Fine
  ok : r.1.Ok
  cl : r.1.cs.length ≤ 100
  ml : r.1.ms.length ≤ 100
  w : nmOk r.2.1
  i : r.2.2.1 ≤ 100
  y : wyD r.2.2.2
theorem run3_fine : ∀ (ds : List Dd) (i : Nat) (L : Ln), L.Ok → L.Fine → (∀ d ∈ ds, d.Ok) → L.cs.length + ds.length ≤ 100 → L.ms.length + ds.length ≤ 100 → i + ds.length ≤ 100 → RFine (run3 L i ds) := by
  have kd : nmOk "done" := ⟨by decide +kernel, by decide +kernel, by decide +kernel⟩
  have ko : nmOk "over" := ⟨by decide +kernel, by decide +kernel, by decide +kernel⟩
  have kf : nmOk "failed" := ⟨by decide +kernel, by decide +kernel, by decide +kernel⟩
  intro ds
  induction ds with
  | nil => intro i L ok f _ h1 h2 h3; exact ⟨f, ok, by show L.cs.length ≤ 100; simpa using h1, by show L.ms.length ≤ 100; simpa using h2, kd, by show i ≤ 100; simpa using h3, .inl ⟨_, .inl rfl, rfl⟩⟩
  | cons d ds ih =>
    intro i L ok f hd h1 h2 h3
    have d1 := hd d List.mem_cons_self
    simp only [List.length_cons] at h1 h2 h3
    have c1 := done_cs L d
    have c2 := done_ms L d
    cases w : L.why d with
    | some y => rw [run3_bad w]; exact ⟨f, ok, by show L.cs.length ≤ 100; omega, by show L.ms.length ≤ 100; omega, kf, by show i ≤ 100; omega, why_wy d1 w⟩
    | none =>
      have ok2 := ok.doneOk d1 w
      have f2 := done_fine ok f d1
      cases o : L.isOver d with
      | true => rw [run3_over w o]; exact ⟨f2, ok2, by show (L.done d).cs.length ≤ 100; omega, by show (L.done d).ms.length ≤ 100; omega, ko, by show i ≤ 100; omega, .inl ⟨_, .inl rfl, rfl⟩⟩
      | false => rw [run3_on w o]; exact ih (i + 1) _ ok2 f2 (fun x hx => hd x (List.mem_cons_of_mem _ hx)) (by omega) (by omega) (by omega)
def markD (r : Ln × Str × Nat × D) : D := .tup [.lst (r.1.cs.map .int), .str r.2.1, .int (r.2.2.1 : Nat), r.2.2.2]
theorem wy_ok {y : D} (h : wyD y) : y.okS ∧ y.dep ≤ 1 ∧ y.blk ≤ 20 := by
  have s : ∀ w : Str, nmOk w → (D.str w).okS ∧ (D.str w).dep ≤ 1 ∧ (D.str w).blk ≤ 20 := fun w hw => ⟨(nm_okS hw).1, by simp [D.dep], by have := (nm_okS hw).2; omega⟩
  rcases h with ⟨w, rfl | hw, rfl⟩ | ⟨a, ha, rfl⟩
  · exact ⟨(fun c hc => by cases hc), by simp [D.dep], by simp [D.blk]; decide⟩
  · exact s w hw
  · have k : nmOk "unmarked" := ⟨by decide +kernel, by decide +kernel, by decide +kernel⟩
    obtain ⟨h1, h2⟩ := nm_okS k
    obtain ⟨g1, g2⟩ := nm_okS ha
    refine ⟨⟨h1, g1, trivial⟩, by simp [unm, D.dep, depL], ?_⟩
    simp only [unm, D.blk, blkL] at h2 g2 ⊢; omega
theorem mark_rep {r : Ln × Str × Nat × D} (h : RFine r) : reprOk (markD r) := by
  obtain ⟨a1, a2, a3⟩ := cs_ok h.f
  obtain ⟨u1, u2⟩ := nm_okS h.w
  obtain ⟨y1, y2, y3⟩ := wy_ok h.y
  have cl := h.cl
  have hi := h.i
  refine reprOk_of ⟨a1, u1, by show ((r.2.2.1 : Int)).natAbs < 2 ^ 200; omega, y1, trivial⟩ ?_ ?_
  · show D.dep (.tup [.lst _, .str _, .int _, _]) ≤ 60
    simp only [D.dep, depL]; omega
  · show D.blk (.tup [.lst _, .str _, .int _, _]) ≤ 80000
    simp only [D.blk, blkL] at u2 ⊢; omega
def txt (r : Ln × Str × Nat × D) : Str := (markD r).py.shown
theorem nm_plb {a : Str} (h : nmOk a) : plb (.str a) = true := by
  show ((tL a).all fun c => decide (97 ≤ c ∧ c ≤ 122)) = true
  rw [List.all_eq_true]
  exact fun c hc => decide_eq_true (h.2.2 c hc)
theorem wy_plb {y : D} (h : wyD y) : plb y.py = true := by
  rcases h with ⟨w, rfl | hw, rfl⟩ | ⟨a, ha, rfl⟩
  · decide +kernel
  · exact nm_plb hw
  · have k : nmOk "unmarked" := ⟨by decide +kernel, by decide +kernel, by decide +kernel⟩
    have k1 := nm_plb k
    have k2 := nm_plb ha
    show (plb (.str "unmarked") && (plb (.str a) && true)) = true
    rw [k1, k2]; rfl
theorem mark_py (r : Ln × Str × Nat × D) : (markD r).py = .tuple [.list (r.1.cs.map .int), .str r.2.1, .int (r.2.2.1 : Nat), r.2.2.2.py] := by
  have e : pyL (r.1.cs.map D.int) = r.1.cs.map .int := by
    induction r.1.cs with
    | nil => rfl
    | cons a l ih => simp only [List.map_cons, pyL, ih]; rfl
  show PyData.tuple [.list (pyL (r.1.cs.map D.int)), _, _, _] = _
  rw [e]
  rfl
theorem mark_plb {r : Ln × Str × Nat × D} (h : RFine r) : plb (markD r).py = true := by
  rw [mark_py]
  have k1 := nm_plb h.w
  have k2 := wy_plb h.y
  have k0 : plbA (r.1.cs.map .int) = true := by
    rw [plbA_iff]
    intro x hx
    obtain ⟨i, _, rfl⟩ := List.mem_map.mp hx
    rfl
  show (plbA (r.1.cs.map .int) && (plb (.str r.2.1) && (true && (plb r.2.2.2.py && true)))) = true
  rw [k0, k1, k2]; rfl
theorem txt_iff {r s : Ln × Str × Nat × D} (hr : RFine r) (hs : RFine s) : txt r = txt s ↔ ky r = ky s := by
  constructor
  · intro h
    have e := shown_inj (mark_plb hr) (mark_plb hs) h
    rw [mark_py, mark_py] at e
    injection e with e
    injection e with e1 e
    injection e with e2 e
    injection e with e3 e
    injection e with e4 e
    injection e1 with e1
    injection e2 with e2
    injection e3 with e3
    have e1 : r.1.cs = s.1.cs := (List.map_inj_right (fun a b k => by injection k)).mp e1
    unfold ky
    rw [e1, e2, e4, show r.2.2.1 = s.2.2.1 from by omega]
  · intro h
    unfold ky at h
    injection h with h1 h
    injection h with h2 h
    injection h with h3 h4
    unfold txt
    rw [mark_py, mark_py, h1, h2, h3, h4]
/-! its signs -/
def gsh (d : PyData) : Prop := ∀ c ∈ sh d, c < 128
theorem gsh_i (i : Int) : gsh (.int i) := fun c hc => by
  rw [sh_i] at hc
  have dg : ∀ n : Nat, ∀ c ∈ TL.numL n, c < 128 := fun n c hc => by
    have := TL.numL_digits n c hc
    omega
  split at hc
  · exact dg _ c hc
  · rcases List.mem_cons.mp hc with rfl | hc
    · decide
    · exact dg _ c hc
theorem gsh_s {x : Str} (h : ∀ c ∈ tL x, 97 ≤ c ∧ c ≤ 122) : gsh (.str x) := fun c hc => by
  rw [sh_s h] at hc
  rcases List.mem_cons.mp hc with rfl | hc
  · decide
  · rcases List.mem_append.mp hc with hc | hc
    · have := h c hc; omega
    · rw [List.mem_singleton.mp hc]; decide
theorem grs (k : Nat) (hk : k < 128) : ∀ r : List PyData, (∀ d ∈ r, gsh d) → ∀ c ∈ rs k r, c < 128
  | [], _, c, hc => by rw [rs] at hc; rw [List.mem_singleton.mp hc]; exact hk
  | d :: r, h, c, hc => by
    rw [rs] at hc
    rcases List.mem_cons.mp hc with rfl | hc
    · decide
    · rcases List.mem_cons.mp hc with rfl | hc
      · decide
      · rcases List.mem_append.mp hc with hc | hc
        · exact h d List.mem_cons_self c hc
        · exact grs k hk r (fun d hd => h d (List.mem_cons_of_mem _ hd)) c hc
theorem gsh_l {l : List PyData} (h : ∀ d ∈ l, gsh d) : gsh (.list l) := fun c hc => by
  cases l with
  | nil => rw [sh_l0] at hc; simp at hc; omega
  | cons d r =>
    rw [sh_l1] at hc
    rcases List.mem_cons.mp hc with rfl | hc
    · decide
    · rcases List.mem_append.mp hc with hc | hc
      · exact h d List.mem_cons_self c hc
      · exact grs 93 (by decide) r (fun d hd => h d (List.mem_cons_of_mem _ hd)) c hc
theorem gsh_t {d e : PyData} {r : List PyData} (h : ∀ y ∈ d :: e :: r, gsh y) : gsh (.tuple (d :: e :: r)) := fun c hc => by
  rw [sh_t2] at hc
  rcases List.mem_cons.mp hc with rfl | hc
  · decide
  · rcases List.mem_append.mp hc with hc | hc
    · exact h d List.mem_cons_self c hc
    · exact grs 41 (by decide) _ (fun d hd => h d (List.mem_cons_of_mem _ hd)) c hc
theorem txt_ok {r : Ln × Str × Nat × D} (h : RFine r) : PyData.strOk (txt r) = true := by
  have w : gsh (.str r.2.1) := gsh_s h.w.2.2
  have y : gsh r.2.2.2.py := by
    rcases h.y with ⟨w, rfl | hw, e⟩ | ⟨a, ha, e⟩
    · rw [e]; exact gsh_s fun c hc => by cases hc
    · rw [e]; exact gsh_s hw.2.2
    · rw [e]
      have k : nmOk "unmarked" := ⟨by decide +kernel, by decide +kernel, by decide +kernel⟩
      show gsh (.tuple [.str "unmarked", .str a])
      exact gsh_t fun y hy => by
        simp only [List.mem_cons, List.not_mem_nil, or_false] at hy
        rcases hy with rfl | rfl
        · exact gsh_s k.2.2
        · exact gsh_s ha.2.2
  have g : gsh (markD r).py := by
    rw [mark_py]
    refine gsh_t fun d hd => ?_
    simp only [List.mem_cons, List.not_mem_nil, or_false] at hd
    rcases hd with rfl | rfl | rfl | rfl
    · exact gsh_l fun d hd => by
        obtain ⟨i, _, rfl⟩ := List.mem_map.mp hd
        exact gsh_i i
    · exact w
    · exact gsh_i _
    · exact y
  have g : ∀ c ∈ (txt r).cps.toList, c < 128 := g
  unfold PyData.strOk
  rw [Array.all_eq_true']
  intro c hc
  have := g c (Array.mem_toList_iff.mpr hc)
  exact decide_eq_true (by omega)
end LW

namespace LW
open PySem PySem.Spec PyProof.Rows L2 DL
/-! data that can be compared -/
def gd (n : Nat) (d : D) : Prop := d.isPy = true ∧ d.py.canLay0 = true ∧ d.py.depth ≤ n
theorem gd_str {s : Str} (h : PyData.strOk s = true) : gd 0 (.str s) := ⟨rfl, h, Nat.le_refl _⟩
theorem gd_all {n : Nat} : ∀ {ds : List D}, (∀ d ∈ ds, gd n d) → isPyL ds = true ∧ PyData.canLayAll0 (pyL ds) = true ∧ PyData.depthAll (pyL ds) ≤ n
  | [], _ => ⟨rfl, rfl, Nat.zero_le _⟩
  | d :: r, h => by
    have a := gd_all fun x hx => h x (List.mem_cons_of_mem _ hx)
    have b := h d List.mem_cons_self
    refine ⟨?_, ?_, ?_⟩
    · simp [isPyL, a.1, b.1]
    · simp [pyL, PyData.canLayAll0, a.2.1, b.2.1]
    · have := a.2.2
      have := b.2.2
      simp only [pyL, PyData.depthAll]
      omega
theorem gd_lst {n : Nat} {ds : List D} (h : ∀ d ∈ ds, gd n d) : gd (n + 1) (.lst ds) := by
  have a := gd_all h
  refine ⟨by simpa [D.isPy] using a.1, by simpa [D.py, PyData.canLay0] using a.2.1, ?_⟩
  have := a.2.2
  simp only [D.py, PyData.depth]
  omega
theorem gd_shaped {n : Nat} {d : D} (h : gd n d) (k : n ≤ 64) : SeqAt.shaped d.py = true := by
  unfold SeqAt.shaped
  rw [h.2.1]
  have := h.2.2
  simp; omega
theorem gd_eq {n m : Nat} {a b : D} (ha : gd n a) (hb : gd m b) (hn : n ≤ 64) (hm : m ≤ 64) {t : Bool} (e : PyData.eqv a.py b.py = t) (Q : Bool → Prop) : dEqG a b Q = Q t := dEqG_of ha.1 hb.1 (gd_shaped ha hn) (gd_shaped hb hm) e Q
end LW

namespace LW
open PySem PySem.Spec PyProof.Rows L2 DL
/-! ## k88: the law -/
def tG : E Fl := (sSeq (sAsg (bO dIx (ePk 8) (uO dNeg (ep (.int 1)))) (gN 11))
    (sSeq (eb (eVar 11) (fAppC (eTup (aC (eVar 3) (aC (eVar 13) aN)))))
    (sIf (eAnd (eT (bO dGt (uZ dLen (ePk 11)) (ep (.int 2)))) (tN (tV (eCall 1 1 0 m__law_ds_straight gL (aC (oP (eLst (aC (bZ dIx (ePk 11) (ep (.int 0))) (aC (bZ dIx (ePk 11) (bO dDiv (uZ dLen (ePk 11)) (ep (.int 2)))) (aC (bZ dIx (ePk 11) (uO dNeg (ep (.int 1)))) aN))))) aN) aN))))
    (sRet (ep (.bl false)))
    (ep .nx))))
def tM : E Fl := (sSeq (sIf (eOr (eT (bO dEq (ePk 9) (oP (eLst aN)))) (eT (bO dNe (bO dIx (ePk 9) (uO dNeg (ep (.int 1)))) (ePk 10))))
    (sSeq (sIf (eT (bO dIn (ePk 10) (ePk 9)))
    (sRet (ep (.bl false)))
    (ep .nx))
    (sSeq (sApp 9 (eVar 10))
    (sApp 8 (eb (eLst aN) fNewL))))
    (ep .nx))
    tG)
theorem p0__law_right_eq (ρ : Rho) (Q : Fl → Rho → Zs → Prop) (X : Er → Rho → Zs → Prop) (z : Zs) : p0__law_right ρ Q X z = (sSeq (sAsg (eCall 2 2 0 m_run gL (aC (eVar 7) (aC (eVar 3) aN)) aN) (gTp 2 (gCn (gN 12) (gCn (gN 13) gNl))))
    (sSeq (sAsg (uO dRepr (eTup (aC (eVar 12) (aC (bO dIx (ePk 13) (ep (.int 0))) (aC (eCall 2 2 0 m__law_ds_where gL (aC (eVar 5) (aC (eVar 3) aN)) aN) (aC (eIf (eT (bO dEq (bO dIx (ePk 13) (ep (.int 0))) (ep (.str "failed")))) (bO dIx (ePk 13) (ep (.int 2))) (ep (.str ""))) aN)))))) (gN 10))
    tM)) ρ Q X z := rfl
theorem fine0 (p : Int × Int) : (l0 p).Fine := ⟨(fun _ h => nomatch h), (fun _ h => nomatch h)⟩
theorem rr_sp {u b : Int} (h0 : 0 ≤ u) (h1 : u ≤ b) (b1 : 1 ≤ b) (b9 : b ≤ 1000) : sp17 (rr u b) := by
  have A := rr_fr h0 b1 h1 (Int.le_refl b)
  have := A.n0
  have := A.n9
  have := A.d1
  have := A.d9
  exact ⟨by omega, by omega⟩
theorem vals_sp {L : Ln} (ok : L.Ok) (b9 : L.b ≤ 1000) : ∀ v ∈ vals L, sp17 v := fun v hv => by
  have b1 := ok.b1
  have o1 := ok.o1
  unfold vals at hv
  rcases List.mem_cons.mp hv with rfl | hv
  · exact rr_sp (by omega) ok.ob b1 b9
  · rcases List.mem_cons.mp hv with rfl | hv
    · exact rr_sp ok.p0 ok.pb b1 b9
    · obtain ⟨q, hq, rfl⟩ := List.mem_map.mp hv
      have hq : q ∈ L.ms := List.mem_mergeSort.mp hq
      obtain ⟨m0, m1⟩ := ok.m0 q hq
      exact rr_sp m0 m1 b1 b9
section
variable {ds : List Dd} (hd : ∀ d ∈ ds, d.Ok ∧ d.nspn) (hl : ds.length ≤ 20)
include hd hl
theorem rn_fine {p : Int × Int} (hp : Osm p) : RFine (run3 (l0 p) 0 ds) :=
  run3_fine ds 0 (l0 p) hp.o.ok (fine0 p) (fun d h => (hd d h).1) (by show 0 + ds.length ≤ 100; omega) (by show 0 + ds.length ≤ 100; omega) (by omega)
theorem rn_vals {p : Int × Int} (hp : Osm p) : (∀ v ∈ valsR (run3 (l0 p) 0 ds), sp17 v) ∧ (valsR (run3 (l0 p) 0 ds)).length ≤ 1000 := by
  have f := rn_fine hd hl hp
  have b : (run3 (l0 p) 0 ds).1.b ≤ 1000 := by rw [run3_b]; exact hp.d
  unfold valsR
  split
  · exact ⟨(fun _ h => nomatch h), by simp⟩
  · refine ⟨vals_sp f.ok b, ?_⟩
    have e : (srt (run3 (l0 p) 0 ds).1.ms).length = (run3 (l0 p) 0 ds).1.ms.length := List.length_mergeSort _
    have := f.ml
    unfold vals
    simp
    omega
theorem w_tG {x : Int × Int} (hx : Osm x) (G : List D) (g : Nat) (S : List (Int × Int)) (hS : ∀ p ∈ S ++ [x], Osm p ∧ ky (run3 (l0 p) 0 ds) = ky (run3 (l0 x) 0 ds)) (so : (S ++ [x]).Pairwise ole) (sl : S.length < 1000) (s0 s1 s2 s4 s5 s6 s7 s9 s10 t11 s12 : Sl) (z : Zs) (hz : z.cs[g]? = some (.lst (S.map fun p => thD p (run3 (l0 p) 0 ds)))) (Q : Fl → Rho → Zs → Prop) (X : Er → Rho → Zs → Prop)
    (h : ∀ z', z'.n = z.n → z'.cs = z.cs.set g (.lst ((S ++ [x]).map fun p => thD p (run3 (l0 p) 0 ds))) → Q .nx [s0, s1, s2, Sl.fr (prD x), s4, s5, s6, s7, Sl.own (G ++ [D.mc g]), s9, s10, Sl.fr (.mc g), s12, Sl.fr (enD (run3 (l0 x) 0 ds))] z') :
    tG [s0, s1, s2, Sl.fr (prD x), s4, s5, s6, s7, Sl.own (G ++ [D.mc g]), s9, s10, t11, s12, Sl.fr (enD (run3 (l0 x) 0 ds))] Q X z := by
  simp [tG]
  have gl : g < z.cs.length := (List.getElem?_eq_some_iff.mp hz).1
  refine ⟨⟨_, hz⟩, _, hz, by simp; omega, ?_⟩
  have e : S.map (fun p => thD p (run3 (l0 p) 0 ds)) ++ [D.tup [prD x, enD (run3 (l0 x) 0 ds)]] = (S ++ [x]).map fun p => thD p (run3 (l0 p) 0 ds) := by simp [thD]
  rw [e]
  have hT : ∃ T, T = S ++ [x] := ⟨_, rfl⟩
  obtain ⟨T, eT⟩ := hT
  have h := h { n := z.n, cs := z.cs.set g (.lst ((S ++ [x]).map fun p => thD p (run3 (l0 p) 0 ds))) } rfl rfl
  have Tl : T.length = S.length + 1 := by rw [eT]; simp
  have hx0 : T[T.length - 1]? = some x := by rw [eT]; simp
  rw [← eT] at h hS so ⊢
  have hg : (⟨z.n, z.cs.set g (.lst (T.map fun p => thD p (run3 (l0 p) 0 ds)))⟩ : Zs).cs[g]? = some (.lst (T.map fun p => thD p (run3 (l0 p) 0 ds))) := List.getElem?_set_self gl
  generalize (⟨z.n, z.cs.set g (.lst (T.map fun p => thD p (run3 (l0 p) 0 ds)))⟩ : Zs) = z1 at hg h ⊢
  have dr1 : dr z1 (.mc g) = .lst (T.map fun p => thD p (run3 (l0 p) 0 ds)) := dr_L hg
  have ix : ∀ (i : Nat), i < T.length → ∃ p, p ∈ T ∧ T[i]? = some p ∧ atI (T.map fun p => thD p (run3 (l0 p) 0 ds)) (i : Int) = some (thD p (run3 (l0 p) 0 ds)) := fun i hi => ⟨T[i], List.getElem_mem hi, List.getElem?_eq_getElem hi, L2.atI_nat (by rw [List.getElem?_map, List.getElem?_eq_getElem hi]; rfl)⟩
  have dri : ∀ i : Int, dr z1 (.int i) = .int i := fun _ => rfl
  simp [dr1, dri]
  refine ⟨fun t => ?_, fun _ => h⟩
  have ef : ((T.length : Int)).fdiv 2 = ((T.length / 2 : Nat) : Int) := by
    rw [Int.fdiv_eq_ediv_of_nonneg _ (by omega)]; omega
  obtain ⟨p, pT, p0, _⟩ := ix 0 (by omega)
  obtain ⟨m, mT, m0, m1⟩ := ix (T.length / 2) (by omega)
  have xT : x ∈ T := by rw [eT]; simp
  have lst : T.getLast? = some x := by rw [eT]; simp
  have pr : ∀ (i j : Nat) a b, i < j → T[i]? = some a → T[j]? = some b → ole a b := fun i j a b k ha hb => by
    obtain ⟨i1, i2⟩ := List.getElem?_eq_some_iff.mp ha
    obtain ⟨j1, j2⟩ := List.getElem?_eq_some_iff.mp hb
    rw [← i2, ← j2]
    exact List.pairwise_iff_getElem.mp so i j i1 j1 k
  have o1 := pr 0 (T.length / 2) p m (by omega) p0 m0
  have o2 := pr (T.length / 2) (T.length - 1) m x (by omega) m0 hx0
  obtain ⟨ps, pk⟩ := hS p pT
  obtain ⟨ms, mk⟩ := hS m mT
  obtain ⟨k3, s1', s2', s3'⟩ := three_strt ds hd ps.o ms.o hx.o o1 o2 pk
  refine ⟨_, ⟨p.1, p.2, p0, rfl⟩, by decide +kernel, ?_⟩
  rw [ef]
  refine ⟨_, m1, _, ⟨x.1, x.2, lst, rfl⟩, ?_⟩
  have v1 := rn_vals hd hl ps
  have v2 := rn_vals hd hl ms
  have v3 := rn_vals hd hl hx
  refine w__law_ds_straight p m x ps.sp ms.sp hx.sp _ _ _ (fun r hr => ?_) s1' s2' (by have := v1.2; show (valsR (run3 (l0 p) 0 ds)).length ≤ 1000000; omega) (fun v hv => ?_) s3' _ _ z1 ?_
  · rcases hr with rfl | rfl | rfl
    · have := (rn_fine hd hl ps).ml; show (run3 (l0 p) 0 ds).1.ms.length < 1000000; omega
    · have := (rn_fine hd hl ms).ml; omega
    · have := (rn_fine hd hl hx).ml; show (run3 (l0 x) 0 ds).1.ms.length < 1000000; omega
  · rcases hv with hv | hv | hv
    · exact v1.1 v hv
    · exact v2.1 v hv
    · exact v3.1 v hv
  · simp
    exact h
abbrev rn (ds : List Dd) (p : Int × Int) : Ln × Str × Nat × D := run3 (l0 p) 0 ds
structure GI (ds : List Dd) (P : List (Int × Int)) (M : List Str) (G : List D) (z : Zs) : Prop where
  nil : P = [] → M = []
  lst : ∀ l, P.getLast? = some l → (∃ M', M = M' ++ [txt (rn ds l)]) ∧ ∃ (G' : List D) (g : Nat) (S : List (Int × Int)), G = G' ++ [D.mc g] ∧ z.cs[g]? = some (.lst (S.map fun p => thD p (rn ds p))) ∧ (∀ p ∈ S, ky (rn ds p) = ky (rn ds l)) ∧ S.Sublist P
  mm : ∀ t ∈ M, ∃ p ∈ P, t = txt (rn ds p)
  ml : M.length ≤ P.length
  gl : G.length ≤ P.length
omit hd hl in
theorem ord_last {P R : List (Int × Int)} {x : Int × Int} (h : Ord (P ++ x :: R)) : (∀ p ∈ P, Osm p ∧ ole p x) ∧ Osm x ∧ P.Pairwise ole := by
  obtain ⟨h1, h2, h3⟩ := List.pairwise_append.mp h.p
  exact ⟨fun p hp => ⟨h.s p (List.mem_append_left _ hp), h3 p hp x List.mem_cons_self⟩, h.s x (List.mem_append_right _ List.mem_cons_self), h1⟩
omit hd hl in
theorem in_txt (a : Str) (N : List Str) (ha : PyData.strOk a = true) (hN : ∀ b ∈ N, PyData.strOk b = true) (n : a ∉ N) (Q : Bool → Prop) (h : Q false) : dInB (.str a) (.lst (N.map .str)) Q := by
  have g : gd 1 (.lst (N.map .str)) := gd_lst fun d hd => by
    obtain ⟨b, hb, rfl⟩ := List.mem_map.mp hd
    exact gd_str (hN b hb)
  have s1 : SeqAt.shaped (PyData.str a) = true := gd_shaped (gd_str ha) (by omega)
  have s2 : SeqAt.shaped (.list (pyL (N.map .str))) = true := gd_shaped g (by omega)
  have s3 : isPyL (N.map .str) = true := g.1
  show ((_ ∧ _ ∧ _ ∧ _) ∧ Q _)
  refine ⟨⟨rfl, s3, s1, s2⟩, ?_⟩
  have e : ((pyL (N.map D.str)).any fun z => PyData.eqv z (D.str a).py) = false := by
    rw [List.any_eq_false]
    have : pyL (N.map D.str) = N.map PyData.str := by
      clear g s2 s3 n hN
      induction N with
      | nil => rfl
      | cons b N ih => simp only [List.map_cons, pyL, ih]; rfl
    rw [this]
    intro z hz
    obtain ⟨b, hb, rfl⟩ := List.mem_map.mp hz
    show ¬ PyData.eqv (.str b) (.str a) = true
    simp only [PyData.eqv]
    intro k
    have : b = a := by simpa using k
    rw [this] at hb
    exact n hb
  rw [e]
  exact h
omit hd hl in
theorem eq_strN (N : List Str) (hN : ∀ b ∈ N, PyData.strOk b = true) (Q : Bool → Prop) : dEqG (.lst (N.map .str)) (.lst []) Q = Q N.isEmpty := by
  refine gd_eq (gd_lst (n := 0) fun d hd => ?_) (gd_lst (n := 0) (ds := []) fun d hd => (nomatch hd)) (by omega) (by omega) ?_ Q
  · obtain ⟨b, hb, rfl⟩ := List.mem_map.mp hd
    exact gd_str (hN b hb)
  · cases N <;> simp [D.py, pyL, PyData.eqv, PyData.eqvAll]
theorem not_seen {x : Int × Int} {P R : List (Int × Int)} (o : Ord (P ++ x :: R)) {l : Int × Int} (hl' : P.getLast? = some l) (ne : txt (rn ds l) ≠ txt (rn ds x)) {p : Int × Int} (hp : p ∈ P) : txt (rn ds x) ≠ txt (rn ds p) := fun e => by
  obtain ⟨oP, ox, pw⟩ := ord_last o
  have fx := rn_fine hd hl ox
  have fp := rn_fine hd hl (oP p hp).1
  have lP : l ∈ P := List.mem_of_getLast? hl'
  have fl := rn_fine hd hl (oP l lP).1
  have k := (txt_iff fx fp).mp e
  have pl : p = l ∨ ole p l := by
    obtain ⟨P', rfl⟩ : ∃ P', P = P' ++ [l] := by
      obtain ⟨ys, e⟩ := List.getLast?_eq_some_iff.mp hl'
      exact ⟨ys, e⟩
    rcases List.mem_append.mp hp with hp | hp
    · exact .inr ((List.pairwise_append.mp pw).2.2 p hp l (by simp))
    · exact .inl (List.mem_singleton.mp hp)
  rcases pl with rfl | pl
  · exact ne e.symm
  · have := (three_strt ds hd (oP p hp).1.o (oP l lP).1.o ox.o pl (oP l lP).2 k.symm).1
    exact ne ((txt_iff fl fx).mpr (this.trans k.symm))
theorem w_tM {x : Int × Int} (P R : List (Int × Int)) (o : Ord (P ++ x :: R)) (pl : P.length ≤ 200) (M : List Str) (G : List D) (z : Zs) (I : GI ds P M G z) (s0 s1 s2 s4 s5 s6 s7 t11 s12 : Sl) (Q : Fl → Rho → Zs → Prop) (X : Er → Rho → Zs → Prop)
    (h : ∀ M' G' z' t11, z'.n = z.n → GI ds (P ++ [x]) M' G' z' → Q .nx [s0, s1, s2, Sl.fr (prD x), s4, s5, s6, s7, Sl.own G', Sl.own (M'.map .str), Sl.fr (.str (txt (rn ds x))), t11, s12, Sl.fr (enD (rn ds x))] z') :
    tM [s0, s1, s2, Sl.fr (prD x), s4, s5, s6, s7, Sl.own G, Sl.own (M.map .str), Sl.fr (.str (txt (rn ds x))), t11, s12, Sl.fr (enD (rn ds x))] Q X z := by
  obtain ⟨oP, ox, pwP⟩ := ord_last o
  have fx := rn_fine hd hl ox
  have ml := I.ml
  have gl := I.gl
  have mOk : ∀ b ∈ M, PyData.strOk b = true := fun b hb => by
    obtain ⟨p, hp, rfl⟩ := I.mm b hb
    exact txt_ok (rn_fine hd hl (oP p hp).1)
  have getx : (P ++ [x]).getLast? = some x := by simp
  have new : txt (rn ds x) ∉ M → dIn (D.str (txt (rn ds x))) (D.lst (List.map D.str M)) fun a =>
          fT a
            [s0, s1, s2, Sl.fr (prD x), s4, s5, s6, s7, Sl.own G, Sl.own (List.map D.str M),
              Sl.fr (D.str (txt (rn ds x))), t11, s12, Sl.fr (enD (rn ds x))]
            (fun t ρ' z' =>
              (t = true → Q (Fl.ret (D.bl false)) ρ' z') ∧
                (t = false →
                  sApp 9 (eVar 10) ρ'
                    (fun fl ρ' z' =>
                      fSeq (sApp 8 (eb (eLst aN) fNewL)) fl ρ' (fun fl ρ' z' => fSeq tG fl ρ' Q X z') X z')
                    X z'))
            X z := fun n => by
    refine in_txt _ M (txt_ok fx) mOk n _ ?_
    simp
    refine ⟨by omega, by omega, ?_⟩
    have e1 : M.map D.str ++ [D.str (txt (rn ds x))] = (M ++ [txt (rn ds x)]).map D.str := by simp
    rw [e1]
    refine w_tG hd hl ox G z.cs.length [] (fun p hp => by rw [List.mem_singleton.mp hp]; exact ⟨ox, rfl⟩) (List.pairwise_singleton _ _) (by simp) _ _ _ _ _ _ _ _ _ _ _ _ (by simp) _ _ fun z' n1 c1 => ?_
    refine h (M ++ [txt (rn ds x)]) (G ++ [D.mc z.cs.length]) z' _ n1 ⟨fun e => by simp at e, fun l el => ?_, fun t ht => ?_, by simp; omega, by simp; omega⟩
    · rw [getx] at el
      cases el
      refine ⟨⟨M, rfl⟩, G, z.cs.length, [x], rfl, ?_, fun p hp => by rw [List.mem_singleton.mp hp], List.sublist_append_right _ _⟩
      rw [c1]
      simp
    · rcases List.mem_append.mp ht with ht | ht
      · obtain ⟨p, hp, e⟩ := I.mm t ht
        exact ⟨p, List.mem_append_left _ hp, e⟩
      · exact ⟨x, by simp, List.mem_singleton.mp ht⟩
  simp [tM]
  rw [eq_strN M mOk]
  refine ⟨(fun e => new fun m => by rw [List.isEmpty_iff.mp e] at m; exact absurd m List.not_mem_nil), fun e => ?_⟩
  have Pne : P ≠ [] := fun k => by rw [I.nil k] at e; cases e
  obtain ⟨l, el⟩ : ∃ l, P.getLast? = some l := by
    cases q : P.getLast? with
    | none => exact absurd (List.getLast?_eq_none_iff.mp q) Pne
    | some l => exact ⟨l, rfl⟩
  obtain ⟨⟨M', eM⟩, G', g, S, eG, hz, kS, sb⟩ := I.lst l el
  have lP : l ∈ P := List.mem_of_getLast? el
  have fl := rn_fine hd hl (oP l lP).1
  refine ⟨_, ⟨txt (rn ds l), by rw [eM]; simp, rfl⟩, ?_⟩
  by_cases k : txt (rn ds l) = txt (rn ds x)
  · have e2 : dEqB (D.str (txt (rn ds l))) (D.str (txt (rn ds x))) = fun T => T true := by
      funext T
      show T (decide (_ = _)) = T true
      rw [decide_eq_true k]
    rw [e2]
    refine ⟨(fun t => nomatch t), fun _ => ?_⟩
    have kl := (txt_iff fl fx).mp k
    have sP : ∀ p ∈ S, p ∈ P := fun p hp => sb.mem hp
    have sl : S.length ≤ P.length := sb.length_le
    have hS : ∀ p ∈ S ++ [x], Osm p ∧ ky (rn ds p) = ky (rn ds x) := fun p hp => by
      rcases List.mem_append.mp hp with hp | hp
      · exact ⟨(oP p (sP p hp)).1, (kS p hp).trans kl⟩
      · rw [List.mem_singleton.mp hp]; exact ⟨ox, rfl⟩
    have so : (S ++ [x]).Pairwise ole := by
      rw [List.pairwise_append]
      refine ⟨pwP.sublist sb, List.pairwise_singleton _ _, fun a ha b hb => ?_⟩
      rw [List.mem_singleton.mp hb]
      exact (oP a (sP a ha)).2
    rw [eG]
    refine w_tG hd hl ox G' g S hS so (by omega) _ _ _ _ _ _ _ _ _ _ _ z hz _ _ fun z' n1 c1 => ?_
    refine h M (G' ++ [D.mc g]) z' _ n1 ⟨fun e => by simp at e, fun l' el' => ?_, fun t ht => ?_, by simp; omega, by rw [← eG]; simp; omega⟩
    · rw [getx] at el'
      cases el'
      refine ⟨⟨M', by rw [eM, k]⟩, G', g, S ++ [x], rfl, ?_, fun p hp => (hS p hp).2, sb.append (List.Sublist.refl _)⟩
      rw [c1]
      exact List.getElem?_set_self (List.getElem?_eq_some_iff.mp hz).1
    · obtain ⟨p, hp, e⟩ := I.mm t ht
      exact ⟨p, List.mem_append_left _ hp, e⟩
  · have e2 : dEqB (D.str (txt (rn ds l))) (D.str (txt (rn ds x))) = fun T => T false := by
      funext T
      show T (decide (_ = _)) = T false
      rw [decide_eq_false k]
    rw [e2]
    refine ⟨fun _ => new fun m => ?_, fun t => nomatch t⟩
    obtain ⟨p, hp, e⟩ := I.mm _ m
    exact not_seen hd hl o el k hp e
omit hd hl in
theorem run3_nf : ∀ (ds : List Dd) (i : Nat) (L : Ln), (run3 L i ds).2.1 ≠ "failed" → (run3 L i ds).2.2.2 = .str "" := by
  intro ds
  induction ds with
  | nil => intro i L _; rfl
  | cons d ds ih =>
    intro i L h
    cases w : L.why d with
    | some y => rw [run3_bad w] at h; exact absurd rfl h
    | none =>
      cases o : L.isOver d with
      | true => rw [run3_over w o]
      | false => rw [run3_on w o] at h ⊢; exact ih (i + 1) _ h
/-- one opening -/
theorem w_one {x : Int × Int} (P R : List (Int × Int)) (o : Ord (P ++ x :: R)) (pl : P.length ≤ 200) (M : List Str) (G : List D) (z : Zs) (I : GI ds P M G z) (s5 : Sl) (h5 : s5 = Sl.own (ds.map Dd.D) ∨ s5 = Sl.fr (.lst (ds.map Dd.D))) (s0 s1 s2 s4 s6 t10 t11 t12 t13 : Sl) (Q : Fl → Rho → Zs → Prop) (X : Er → Rho → Zs → Prop)
    (h : ∀ M' G' z' s5 t10 t11 t12 t13, z'.n = z.n → (s5 = Sl.own (ds.map Dd.D) ∨ s5 = Sl.fr (.lst (ds.map Dd.D))) → GI ds (P ++ [x]) M' G' z' → Q .nx [s0, s1, s2, Sl.fr (prD x), s4, s5, s6, Sl.fr (scD ds), Sl.own G', Sl.own (M'.map .str), t10, t11, t12, t13] z') :
    p0__law_right [s0, s1, s2, Sl.fr (prD x), s4, s5, s6, Sl.fr (scD ds), Sl.own G, Sl.own (M.map .str), t10, t11, t12, t13] Q X z := by
  obtain ⟨oP, ox, pwP⟩ := ord_last o
  have fx := rn_fine hd hl ox
  rw [p0__law_right_eq]
  simp
  refine w_run_of (fun L d h1 h2 h3 h4 Q X z h5 h6 => w_act L h1 d h2 h3 h4 Q X z h5 h6) ds (fun d h => (hd d h).1) (by omega) x ox.o _ _ z ?_
  rw [go_run3]
  simp
  have i0 : ∀ (r : Ln × Str × Nat × D) (T : D → Prop), T (.str r.2.1) → dIx (enD r) (.int 0) T := fun r T t => by
    unfold enD
    split
    · rename_i e
      rw [e] at t
      simpa using t
    · simpa using t
  have i2 : ∀ (r : Ln × Str × Nat × D) (T : D → Prop), r.2.1 = "failed" → T r.2.2.2 → dIx (enD r) (.int 2) T := fun r T e t => by
    unfold enD
    rw [if_pos e]
    simpa using t
  have rep := mark_rep fx
  have wh := fun (z : Zs) Q X hq => w__law_ds_where ds (fun d h => (hd d h).1) (by omega) x ox.o Q X z hq
  have tm := fun (z' : Zs) (n1 : z'.n = z.n) (I' : GI ds P M G z') s5 h5 t11 t12 => w_tM hd hl P R o pl M G z' I' s0 s1 s2 s4 s5 s6 (Sl.fr (scD ds)) t11 t12 Q X fun M' G' z2 t11 n2 I2 => h M' G' z2 s5 _ t11 t12 _ (n2.trans n1) h5 I2
  have nf := run3_nf ds 0 (l0 x)
  generalize hr : run3 (l0 x) 0 ds = r at *
  have er : rn ds x = r := hr
  rcases h5 with rfl | rfl
  all_goals
    refine i0 r _ ?_
    simp
    refine wh z _ _ fun z' old => ?_
    have I' : GI ds P M G z' := ⟨I.nil, fun l el => by
      obtain ⟨a, G', g, S, b1, b2, b3, b4⟩ := I.lst l el
      exact ⟨a, G', g, S, b1, old.2 _ _ b2, b3, b4⟩, I.mm, I.ml, I.gl⟩
    have t := tm z' old.1 I' _ (.inr rfl)
    rw [er] at t
    refine i0 r _ ?_
    by_cases f : r.2.1 = "failed"
    · have e2 : dEqB (D.str r.2.1) (D.str "failed") = fun T => T true := by
        funext T
        show T (decide (_ = _)) = T true
        rw [decide_eq_true f]
      rw [e2]
      refine ⟨fun _ => ?_, fun t => nomatch t⟩
      refine i2 r _ f ?_
      exact ⟨rep, t _ _⟩
    · have e2 : dEqB (D.str r.2.1) (D.str "failed") = fun T => T false := by
        funext T
        show T (decide (_ = _)) = T false
        rw [decide_eq_false f]
      rw [e2]
      refine ⟨(fun t => nomatch t), fun _ => ?_⟩
      have y := nf f
      have em : markD r = D.tup [D.lst (List.map D.int r.fst.cs), D.str r.2.1, D.int (r.2.2.1 : Nat), D.str ""] := by unfold markD; rw [y]
      have et : txt r = (D.tup [D.lst (List.map D.int r.fst.cs), D.str r.2.1, D.int (r.2.2.1 : Nat), D.str ""]).py.shown := by unfold txt; rw [em]
      rw [em] at rep
      rw [et] at t
      exact ⟨rep, t _ _⟩
end
def rE : E Fl := (sSeq (sP3FOO 7 8 9 (eNew "Script" ["kept"] 1 0 m_Script___init__ (aC (oP (eb (ePk 5) fList)) aN) aN) (eLst aN) (eLst aN))
    (sSeq (sFor (eb (eCall 1 1 0 m__law_ds_openings gL (aC (eVar 0) aN) aN) fSeqI) (gN 3) p0__law_right)
    (sRet (ep (.bl true)))))
theorem s__law_right_cut : s__law_right = (sSeq (sParFO 4 5 (oP (eCall 2 2 0 m__law_words gL (aC (eVar 0) (aC (bO dAdd (ep (.int 1)) (eCall 2 2 0 m__law_coin gL (aC (eVar 0) (aC (ep (.int 3)) aN)) aN)) aN)) aN)) (eLst aN))
    (sSeq (sAsg (bO dIx (oP (eLst (aC (ep (.int 3)) (aC (ep (.int 9)) aN)))) (eCall 2 2 0 m__law_coin gL (aC (eVar 0) (aC (ep (.int 2)) aN)) aN)) (gN 1))
    (sSeq (sFor (eb (aC (eCall 2 2 0 m__law_coin gL (aC (eVar 0) (aC (ep (.int 15)) aN)) aN) aN) fRng1) (gN 2) p1__law_right)
    rE))) := rfl

theorem wl_all {ds : List Dd} (hd : ∀ d ∈ ds, d.Ok ∧ d.nspn) (hl : ds.length ≤ 20) (s0 s1 s2 s4 s6 : Sl) : ∀ (R P : List (Int × Int)) (M : List Str) (G : List D) (z : Zs) (s5 t3 t10 t11 t12 t13 : Sl) (Q : Fl → Rho → Zs → Prop) (X : Er → Rho → Zs → Prop), Ord (P ++ R) → P.length + R.length ≤ 200 → GI ds P M G z → (s5 = Sl.own (ds.map Dd.D) ∨ s5 = Sl.fr (.lst (ds.map Dd.D))) → (∀ ρ z', Q .nx ρ z') →
    forL (gN 3) p0__law_right (R.map prD) [s0, s1, s2, t3, s4, s5, s6, Sl.fr (scD ds), Sl.own G, Sl.own (M.map .str), t10, t11, t12, t13] Q X z := by
  intro R
  induction R with
  | nil => intro P M G z s5 t3 t10 t11 t12 t13 Q X _ _ _ _ h; simpa using h _ _
  | cons x R ih =>
    intro P M G z s5 t3 t10 t11 t12 t13 Q X o pl I h5 h
    simp only [List.length_cons] at pl
    simp only [List.map_cons, forL_cons, gN_a, List.set_cons_zero, List.set_cons_succ]
    refine w_one hd hl P R o (by omega) M G z I s5 h5 _ _ _ _ _ _ _ _ _ _ _ fun M' G' z' s5' t10 t11 t12 t13 n1 h5' I' => ?_
    simp only [forK_1]
    exact ih (P ++ [x]) M' G' z' s5' _ t10 t11 t12 t13 Q X (by simpa using o) (by simp; omega) I' h5' h
theorem w_rE {ds : List Dd} (hd : ∀ d ∈ ds, d.Ok ∧ d.nspn) (hl : ds.length ≤ 20) (s1 s2 s3 s4 s6 s7 s8 s9 s10 s11 s12 s13 : Sl) (m : Int) (hm : m < 10 ^ 16) (Q : D → Zs → Prop) (X : Er → Zs → Prop) (h : ∀ z', Q (.bl true) z') :
    rE [Sl.fr .cel, s1, s2, s3, s4, Sl.own (ds.map Dd.D), s6, s7, s8, s9, s10, s11, s12, s13] (outF Q) (fun e _ z => X e z) ⟨m, []⟩ := by
  simp [rE]
  refine w_script ds (fun d h => w_checked d (hd d h).1) (by omega) _ _ _ ?_
  refine ⟨rfl, ?_⟩
  refine w__law_ds_openings m [] hm _ _ fun l m' ol ll hm' => ?_
  simp
  refine wl_all hd hl _ _ _ _ _ l [] [] [] _ _ _ _ _ _ _ _ _ (by simpa using ol) (by simp; omega) ⟨fun _ => rfl, (fun l e => by simp at e), (fun _ h => nomatch h), by simp, by simp⟩ (.inl rfl) fun ρ z' => ?_
  simp
  exact h z'

theorem wl_deeds {ls : List Str} (l0 : ls ≠ []) (l1 : ls.length ≤ 1000) (hn : ∀ a ∈ ls, nmOk a) {g : Int} (g1 : 1 ≤ g) (g9 : g ≤ 99) (s3 s7 s8 s9 s10 s11 s12 s13 : Sl) : ∀ (k : Nat) (i : Int) (ds : List Dd) (s2 s6 : Sl) (m : Int) (Q : Fl → Rho → Zs → Prop) (X : Er → Rho → Zs → Prop), ds.length + k ≤ 20 → m + 4 * k < 10 ^ 14 → (∀ d ∈ ds, d.Ok ∧ d.nspn) →
    (∀ (ds : List Dd) s2 s6 m', ds.length ≤ 20 → m' < 10 ^ 15 → (∀ d ∈ ds, d.Ok ∧ d.nspn) → Q .nx [Sl.fr .cel, Sl.fr (.int g), s2, s3, Sl.fr (.lst (ls.map .str)), Sl.own (ds.map Dd.D), s6, s7, s8, s9, s10, s11, s12, s13] ⟨m', []⟩) →
    forL (gN 2) p1__law_right (rngD i k) [Sl.fr .cel, Sl.fr (.int g), s2, s3, Sl.fr (.lst (ls.map .str)), Sl.own (ds.map Dd.D), s6, s7, s8, s9, s10, s11, s12, s13] Q X ⟨m, []⟩ := by
  intro k
  induction k with
  | zero => intro i ds s2 s6 m Q X hl hm hd h; simpa [rngD] using h ds s2 s6 m (by omega) (by omega) hd
  | succ k ih =>
    intro i ds s2 s6 m Q X hl hm hd h
    simp only [rngD, forL_cons, gN_a, List.set_cons_zero, List.set_cons_succ]
    rw [p1__law_right]
    simp
    refine w__law_ds_act ls l0 l1 hn g g1 g9 _ _ _ (by show m < _; omega) fun d m1 dok din (h1 : m1 ≤ m + 4) => ?_
    have key : ∀ (e : Dd) (s6 : Sl), e.Ok → e.nspn → ds.length < 16777216 ∧ forL (gN 2) p1__law_right (rngD (i + 1) k)
              [Sl.fr D.cel, Sl.fr (D.int g), Sl.fr (D.int i), s3, Sl.fr (D.lst (List.map D.str ls)),
                Sl.own (List.map Dd.D ds ++ [e.D]), s6, s7, s8, s9, s10, s11, s12, s13]
              Q X { n := m1 } := fun e s6 eo en => by
      refine ⟨by omega, ?_⟩
      have e1 : ds.map Dd.D ++ [e.D] = (ds ++ [e]).map Dd.D := by simp
      rw [e1]
      refine ih (i + 1) (ds ++ [e]) _ _ m1 Q X (by simp; omega) (by omega) (fun d hd' => ?_) h
      rcases List.mem_append.mp hd' with hd' | hd'
      · exact hd d hd'
      · rw [List.mem_singleton.mp hd']; exact ⟨eo, en⟩
    have fin : ∀ (w : Str), (∀ T : D → Prop, T (.str w) → dIx d.D (.int 0) T) → w ≠ "span" → d.nspn → dIx d.D (.int 0) fun a => dEqB a (.str "span") fun t => (t = true → ds.length < 16777216 ∧ forL (gN 2) p1__law_right (rngD (i + 1) k)
              [Sl.fr D.cel, Sl.fr (D.int g), Sl.fr (D.int i), s3, Sl.fr (D.lst (List.map D.str ls)),
                Sl.own (List.map Dd.D ds ++ [D.tup [D.str "gap"]]), Sl.fr d.D, s7, s8, s9, s10, s11, s12,
                s13]
              Q X { n := m1 }) ∧
        (t = false →
          ds.length < 16777216 ∧
            forL (gN 2) p1__law_right (rngD (i + 1) k)
              [Sl.fr D.cel, Sl.fr (D.int g), Sl.fr (D.int i), s3, Sl.fr (D.lst (List.map D.str ls)),
                Sl.own (List.map Dd.D ds ++ [d.D]), Sl.fr d.D, s7, s8, s9, s10, s11, s12, s13]
              Q X { n := m1 }) := fun w h0 ne ns => by
      refine h0 _ ?_
      have e2 : dEqB (D.str w) (D.str "span") = fun T => T false := by
        funext T
        show T (decide (_ = _)) = T false
        rw [decide_eq_false ne]
      rw [e2]
      exact ⟨(fun t => nomatch t), fun _ => key d _ dok ns⟩
    cases d with
    | span a b =>
      have e2 : dEqB (D.str "span") (D.str "span") = fun T => T true := by
        funext T
        show T (decide (_ = _)) = T true
        rw [decide_eq_true rfl]
      have i0 : ∀ T : D → Prop, T (.str "span") → dIx (Dd.span a b).D (.int 0) T := fun T t => by
        unfold Dd.D
        simpa using t
      refine i0 _ ?_
      rw [e2]
      exact ⟨fun _ => key .gap _ (by trivial) (by trivial), (fun t => nomatch t)⟩
    | _ => exact fin _ (fun T t => by unfold Dd.D; simpa using t) (by decide +kernel) (by trivial)
theorem w__law_right (Q : D → Zs → Prop) (X : Er → Zs → Prop) (h : ∀ z', Q (.bl true) z') : m__law_right [.cel] Q X {} := by
  rw [me__law_right, s__law_right_cut]
  simp
  refine w__law_coin 3 _ _ _ (by omega) (by omega) (by show (0 : Int) < _; omega) fun c m1 c0 c1 (h1 : m1 ≤ 0 + 1) => ?_
  obtain ⟨n, hn⟩ := Int.eq_ofNat_of_zero_le (show 0 ≤ 1 + c by omega)
  simp
  rw [hn]
  refine w__law_words n (by omega) (by omega) _ _ _ (by show m1 < _; omega) fun ls m2 ll nd nm (h2 : m2 ≤ m1 + 1000) => ?_
  simp
  refine w__law_coin 2 _ _ _ (by omega) (by omega) (by show m2 < _; omega) fun c2 m3 c20 c21 (h3 : m3 ≤ m2 + 1) => ?_
  refine pick (fun d => ∃ g : Int, d = .int g ∧ 1 ≤ g ∧ g ≤ 99) c20 (by simpa using c21) (fun d hd => ?_) ?_
  · simp at hd
    rcases hd with rfl | rfl
    · exact ⟨_, rfl, by omega, by omega⟩
    · exact ⟨_, rfl, by omega, by omega⟩
  rintro _ ⟨g, rfl, g1, g9⟩
  refine w__law_coin 15 _ _ _ (by omega) (by omega) (by show m3 < _; omega) fun c5 m4 c50 c51 (h4 : m4 ≤ m3 + 1) => ?_
  have a4 : m4 + 4 * (c5.toNat : Int) < 10 ^ 14 := by omega
  simp
  refine ⟨by omega, ?_⟩
  refine wl_deeds (by intro k; rw [k] at ll; simp at ll; omega) (by omega) nm g1 g9 _ _ _ _ _ _ _ _ c5.toNat 0 [] _ _ m4 _ _ (by simp; omega) a4 (fun d hd => nomatch hd) fun ds s2 s6 m5 dl hm hd => ?_
  simp
  exact w_rE hd dl _ _ _ _ _ _ _ _ _ _ _ _ m5 (by omega) Q X h
end LW

namespace LW
open PySem PySem.Spec PyProof.Rows L2 DL
theorem w_law (ns : List Int) (Q : D → Zs → Prop) (X : Er → Zs → Prop) (h : Q (.bl true) {}) : m_law [.scr ns] Q X {} := by
  rw [me_law]
  simp [s_law]
  have key : ∀ (n i : Nat) (t : Sl) (Q' : Fl → Rho → Zs → Prop) (X' : Er → Rho → Zs → Prop), n + i ≤ 6 → (∀ t, Q' .nx [Sl.fr (.scr ns), t] {}) → forL (gN 1) p0_law (rngD (i : Nat) n) [Sl.fr (.scr ns), t] Q' X' {} := by
    intro n
    induction n with
    | zero => intro i t Q' X' hi hq; simp [rngD]; exact hq t
    | succ n ih =>
      intro i t Q' X' hi hq
      simp only [rngD, forL_cons, gN_a, List.set_cons_zero, List.set_cons_succ]
      rw [p0_law]
      simp
      refine w__law_purse ns i _ _ {} (by omega) fun x y hx hy hy2 => ?_
      simp
      refine ⟨⟨hx, hy, by omega⟩, w__law_right _ _ fun z' => ?_⟩
      simp
      exact ih (i + 1) _ _ _ (by omega) hq
  generalize hm : (if 1 < (if (ns.length : Int) < 6 then (ns.length : Int) else 6) then (if (ns.length : Int) < 6 then (ns.length : Int) else 6) else 1) = m
  have hm2 : 1 ≤ m ∧ m ≤ 6 := by split at hm <;> split at hm <;> omega
  refine ⟨⟨by omega, by omega⟩, ?_⟩
  refine key m.toNat 0 .no _ _ (by omega) fun t => ?_
  simp
  exact h
end LW

open PySem PySem.W PySem.Calls PyProof.Rows
theorem PySem.Challenge.cw_dividersteps_k88_whole_same_counts_side_holds : PySem.Challenge.rw_dividersteps_k88_whole_same_counts_side.Holds := by
  w_on; o_law
  refine HandSHeadRun.head_any (r := OpenLaw.row PySem.Challenge.rw_dividersteps_k88_whole_same_counts_side) (q := view (OpenLaw.row PySem.Challenge.rw_dividersteps_k88_whole_same_counts_side).prog [53]) (H := LW.hkL) (ob := LW.obL) (M := 6000) (loose := LW.looseL) (d := HandSHeadRun.topDef (OpenLaw.row PySem.Challenge.rw_dividersteps_k88_whole_same_counts_side).prog 53) (kwd := []) LW.obL_eq
    (by kernel_rfl) (fun s => by kernel_rfl) LW.runL (by kernel_rfl) (by kernel_rfl) (by kernel_rfl) (by rfl) (by first | assumption | decide +kernel) (by decide +kernel) ⟨rfl, rfl, rfl, rfl, rfl, by decide +kernel⟩ ?hw ?hc
  case hw => w_witness2
  case hc =>
    refine DL.walk_end (l := PySem.Challenge.rw_dividersteps_k88_whole_same_counts_side) (n := 63) (k := 11) (x := "_law_script") (m := LW.m_law) rfl (by decide) (by kernel_rfl) ⟨rfl, by decide, by decide⟩ rfl ?F (fun ns hn => LW.w_law ns _ _ rfl)
    intro w mg fa h Y G hm
    obtain ⟨K, KX, c⟩ := Y
    have hm2 : mg ("law" : PySem.Str) = some (.ref fa) := by
      have e : (HandSHeadRun.topDef (OpenLaw.row PySem.Challenge.rw_dividersteps_k88_whole_same_counts_side).prog 53).name = ("law" : PySem.Str) := by kernel_rfl
      rw [← e]
      exact hm
    have e := hm2.symm.trans (He.glo_ok KX G (c.1.fact 48 (f := .glo "law") rfl))
    cases e
    obtain ⟨fd, F⟩ := c.1.def_ 52 (d := LW.d53) rfl
    have b := L2.FunD.bindsA (ps := ["_law_script"]) F fun _ _ _ _ _ _ us hl => match us, hl with | [_], _ => rfl
    exact ⟨K, fd, KX, fun s u => b s [u] rfl, fun base hK hN => LW.ok_law (P := (PySem.Challenge.rw_dividersteps_k88_whole_same_counts_side).prog) (w := w) (base := base) ⟨hK, hN, c⟩ F⟩
