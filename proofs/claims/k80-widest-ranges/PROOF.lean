import PyProof.Rows.All
import Wide.All
import OpenK.AllK
import Wide.FinOn
import KE.KStateDown
import HandS.ForExc
import HandS.Defaults
import HandS.Head0
import HandS.Head1
import HandS.Head2
import HandS.HeadEnd
import HandS.HeadHook1
import HandS.HeadHook2
import HandS.HeadHook3
import HandS.ForMost
import HandS.Flow
import HandS.Wide
import HandS.ExcInit
import HandS.ExcOwn
import HandS.Deep
import HandS.TupAny
import HandS.TupMul
import HandS.Codes
import PyProof.ReprRoads
import HandS.Conv
import OpenK.KMore
import HandS.RaiseMore
import HandS.Iter
import HandS.Comp
import HandS.ExcField
import HandS.ExcIs
import HandS.IsInst
import KE.KExcIs
import HandS.Ends
import PyProof.ReprBulk
import PyProof.FitsInt
import HandS.Style
import HandS.TupLe
import PyProof.FString2
import PyProof.FactsAll.bool_2
import HandS.More
import PySem.Challenge.RW_dividersteps_k80_widest_ranges
set_option Elab.async false
set_option linter.all false
set_option maxRecDepth 100000
set_option maxHeartbeats 0

namespace DL
open PySem PySem.Spec PyProof.Rows L2

/-! ## data, and how the heap bears it -/
inductive D where
  | non | bl (b : Bool) | int (i : Int) | str (s : Str)
  | lst (xs : List D) | tup (xs : List D)
  | cel
  | ins (c : Str) (ns : List Str) (vs : List D)
  | dic (ks : List Key) (vs : List D)
  | exn (a x : Addr) (c : Str) (v : D)
  | scr (ns : List Int)

mutual
inductive Rp (K : PySem.W.Frag) (mg : Str → Option Value) (pa : Option Addr) (F : Hp) : V → D → Prop
  | non : Rp K mg pa F .non .non
  | bl (b : Bool) : Rp K mg pa F (.bl b) (.bl b)
  | int (i : Int) : Rp K mg pa F (.int i) (.int i)
  | str (s : Str) : Rp K mg pa F (.str s) (.str s)
  | lst {a : Addr} {xs : List V} {ds : List D} : some a ≠ pa → F a = some (.lst xs) → RpL K mg pa F xs ds → Rp K mg pa F (.ref a) (.lst ds)
  | tup {a : Addr} {xs : List V} {ds : List D} : SqT K F a xs → RpL K mg pa F xs ds → Rp K mg pa F (.ref a) (.tup ds)
  | cel {a : Addr} : pa = some a → Rp K mg pa F (.ref a) .cel
  | ins {a C dx : Addr} {c : Str} {ns : List Str} {xs : List V} {ds : List D} : mg c = some (.ref C) → F a = some (.ins C dx (ns.zip xs)) → ns.length = xs.length → RpL K mg pa F xs ds → Rp K mg pa F (.ref a) (.ins c ns ds)
  | dic {a : Addr} {ks : List Key} {xs : List V} {ds : List D} : Rd F a (.dK (ks.zip xs)) → ks.length = xs.length → RpL K mg pa F xs ds → Rp K mg pa F (.ref a) (.dic ks ds)
  | exn {a x : Addr} {c : Str} {u : V} {e : D} : F x = some (.xd [(("value" : Str), u)]) → Rp K mg pa F u e → Rp K mg pa F (.ref a) (.exn a x c e)
  | scr {a : Addr} {ns : List Int} : SqL K F a (ns.map V.int) → Rp K mg pa F (.ref a) (.scr ns)
inductive RpL (K : PySem.W.Frag) (mg : Str → Option Value) (pa : Option Addr) (F : Hp) : List V → List D → Prop
  | nil : RpL K mg pa F [] []
  | cons {v : V} {vs : List V} {d : D} {ds : List D} : Rp K mg pa F v d → RpL K mg pa F vs ds → RpL K mg pa F (v :: vs) (d :: ds)
end

section
variable {K : PySem.W.Frag} {mg : Str → Option Value} {pa : Option Addr} {F F' H H' : Hp} {v : V} {vs : List V} {d : D} {ds : List D}
theorem rdSame (s : Same F F') {a : Addr} {u : HO} (h : Rd F a u) : Rd F' a u := by
  rcases h with h | ⟨o, h⟩
  · exact .inl (s _ _ h)
  · exact .inr ⟨o, s _ _ h⟩
theorem sqlSame (s : Same F F') {a : Addr} {xs : List V} (h : SqL K F a xs) : SqL K F' a xs := h.elim (fun x => .inl (rdSame s x)) .inr
theorem sqtSame (s : Same F F') {a : Addr} {xs : List V} (h : SqT K F a xs) : SqT K F' a xs := h.elim (fun x => .inl (rdSame s x)) .inr
mutual
theorem Rp.mono (s : Same F F') : ∀ {d : D} {v : V}, Rp K mg pa F v d → Rp K mg pa F' v d
  | .non, _, h => by cases h; exact .non
  | .bl _, _, h => by cases h; exact .bl _
  | .int _, _, h => by cases h; exact .int _
  | .str _, _, h => by cases h; exact .str _
  | .lst _, _, h => by cases h with | lst n q r => exact .lst n (s _ _ q) (RpL.mono s r)
  | .tup _, _, h => by cases h with | tup q r => exact .tup (sqtSame s q) (RpL.mono s r)
  | .cel, _, h => by cases h with | cel e => exact .cel e
  | .ins _ _ _, _, h => by cases h with | ins g q l r => exact .ins g (s _ _ q) l (RpL.mono s r)
  | .dic _ _, _, h => by cases h with | dic q l r => exact .dic (rdSame s q) l (RpL.mono s r)
  | .exn _ _ _ _, _, h => by cases h with | exn q r => exact .exn (s _ _ q) (Rp.mono s r)
  | .scr _, _, h => by cases h with | scr q => exact .scr (sqlSame s q)
theorem RpL.mono (s : Same F F') : ∀ {ds : List D} {vs : List V}, RpL K mg pa F vs ds → RpL K mg pa F' vs ds
  | [], _, h => by cases h; exact .nil
  | _ :: _, _, h => by cases h with | cons a b => exact .cons (Rp.mono s a) (RpL.mono s b)
end
theorem RpL.length : ∀ {ds : List D} {vs : List V}, RpL K mg pa F vs ds → vs.length = ds.length
  | [], _, h => by cases h; rfl
  | _ :: _, _, h => by cases h with | cons a b => simp [RpL.length b]
theorem RpL.get : ∀ {ds : List D} {vs : List V} {i : Nat} {d : D}, RpL K mg pa F vs ds → ds[i]? = some d → ∃ v, vs[i]? = some v ∧ Rp K mg pa F v d
  | [], _, _, _, h, e => by simp at e
  | _ :: _, _, 0, _, h, e => by cases h with | cons a b => simp at e; subst e; exact ⟨_, rfl, a⟩
  | _ :: _, _, i + 1, _, h, e => by cases h with | cons a b => simpa using RpL.get (i := i) b (by simpa using e)
theorem RpL.getV : ∀ {ds : List D} {vs : List V} {i : Nat} {v : V}, RpL K mg pa F vs ds → vs[i]? = some v → ∃ d, ds[i]? = some d ∧ Rp K mg pa F v d
  | [], _, _, _, h, e => by cases h; simp at e
  | _ :: _, _, 0, _, h, e => by cases h with | cons a b => simp at e; subst e; exact ⟨_, rfl, a⟩
  | _ :: _, _, i + 1, _, h, e => by cases h with | cons a b => simpa using RpL.getV (i := i) b (by simpa using e)
theorem RpL.append : ∀ {ds es : List D} {vs ws : List V}, RpL K mg pa F vs ds → RpL K mg pa F ws es → RpL K mg pa F (vs ++ ws) (ds ++ es)
  | [], _, _, _, h, q => by cases h; exact q
  | _ :: _, _, _, _, h, q => by cases h with | cons a b => exact .cons a (RpL.append b q)
theorem RpL.take : ∀ (n : Nat) {ds : List D} {vs : List V}, RpL K mg pa F vs ds → RpL K mg pa F (vs.take n) (ds.take n)
  | 0, _, _, _ => by simp; exact .nil
  | _ + 1, [], _, h => by cases h; exact .nil
  | n + 1, _ :: _, _, h => by cases h with | cons a b => exact .cons a (RpL.take n b)
theorem RpL.drop : ∀ (n : Nat) {ds : List D} {vs : List V}, RpL K mg pa F vs ds → RpL K mg pa F (vs.drop n) (ds.drop n)
  | 0, _, _, h => h
  | _ + 1, [], _, h => by cases h; exact .nil
  | n + 1, _ :: _, _, h => by cases h with | cons a b => exact RpL.drop n b
theorem RpL.set : ∀ (n : Nat) {ds : List D} {vs : List V}, RpL K mg pa F vs ds → Rp K mg pa F v d → RpL K mg pa F (vs.set n v) (ds.set n d)
  | _, [], _, h, _ => by cases h; exact .nil
  | 0, _ :: _, _, h, q => by cases h with | cons a b => exact .cons q b
  | n + 1, _ :: _, _, h, q => by cases h with | cons a b => exact .cons a (RpL.set n b q)
end

/-! ## a def's ground: what stood at its entry; the purse -/
structure CC where
  K : PySem.W.Frag
  mg : Str → Option Value
  pa : Option Addr
  F0 : Hp
  H0 : Hp
  hid : List Addr := []
abbrev CC.R (C : CC) (F : Hp) (v : V) (d : D) : Prop := Rp C.K C.mg C.pa F v d
abbrev CC.RL (C : CC) (F : Hp) (v : List V) (d : List D) : Prop := RpL C.K C.mg C.pa F v d

inductive Sl where
  | no | fr (d : D) | own (xs : List D)
abbrev Rho := List Sl
/-- a raised error: its class's name, its value -/
abbrev Er := Str × D

def Keep (pa : Option Addr) (H H' : Hp) : Prop := ∀ b o, H b = some o → some b ≠ pa → H' b = some o
theorem Keep.refl {pa : Option Addr} {H : Hp} : Keep pa H H := fun _ _ h _ => h
theorem Keep.trans {pa : Option Addr} {H H1 H2 : Hp} (a : Keep pa H H1) (b : Keep pa H1 H2) : Keep pa H H2 := fun c o h n => b c o (a c o h n) n
theorem Keep.new {pa : Option Addr} {H : Hp} {p : Addr} {o : HO} (h : H p = none) : Keep pa H (upd H p o) := fun b u e _ => by rw [upd_ne (ne_of_none e h)]; exact e
theorem Same.new {H : Hp} {p : Addr} {o : HO} (h : H p = none) : Same H (upd H p o) := fun b u e => by rw [upd_ne (ne_of_none e h)]; exact e
theorem Same.upd2 {F H : Hp} {p : Addr} {o : HO} (s : Same F H) (h : F p = none) : Same (upd F p o) (upd H p o) := fun b u e => by
  by_cases q : b = p
  · subst q; rw [upd_same] at e ⊢; exact e
  · rw [upd_ne q] at e ⊢; exact s _ _ e
theorem Same.updR {F H : Hp} {p : Addr} {o : HO} (s : Same F H) (h : F p = none) : Same F (upd H p o) := fun b u e => by
  rw [upd_ne (ne_of_none e h)]; exact s _ _ e

/-- the purse -/
def PzOk (pa : Option Addr) (F H : Hp) (z : Int) : Prop := ∀ p, pa = some p → F p = none ∧ ∃ x y : Int, H p = some (.lst [.int x, .int y, .int z]) ∧ 0 ≤ x ∧ 0 ≤ y ∧ y < 10 ^ 24 + 7 ∧ 0 ≤ z

def SlOk (C : CC) (F H : Hp) : Option V → Sl → Prop
  | _, .no => True
  | some v, .fr d => C.R F v d
  | some v, .own ds => ∃ a xs, v = .ref a ∧ H a = some (.lst xs) ∧ F a = none ∧ C.H0 a = none ∧ some a ≠ C.pa ∧ C.RL F xs ds ∧ a ∉ C.hid
  | none, .fr _ => False
  | none, .own _ => False

structure StOk (C : CC) (σ : L2.St) (ρ : Rho) (F H : Hp) (z : Int) : Prop where
  sub : Same F H
  f0 : Same C.F0 F
  h0 : Keep C.pa C.H0 H
  nw : ∀ b, F b ≠ none → C.F0 b = none → C.H0 b = none
  len : σ.length = ρ.length
  env : ∀ (i : Nat) v s, σ[i]? = some v → ρ[i]? = some s → SlOk C F H v s
  apart : ∀ (i j : Nat) x y a, ρ[i]? = some (.own x) → ρ[j]? = some (.own y) → σ[i]? = some (some (.ref a)) → σ[j]? = some (some (.ref a)) → i = j
  pz : PzOk C.pa F H z
  hd : ∀ b ∈ C.hid, F b = none ∧ (∃ o, H b = some o) ∧ some b ≠ C.pa

section
variable {C : CC} {σ : L2.St} {ρ : Rho} {F F' H H' : Hp} {z z' : Int}
/-- the frozen part and the heap grow; what the frame owns stays -/
theorem StOk.grow (S : StOk C σ ρ F H z) (ff : Same F F') (sub : Same F' H') (hk : Keep C.pa H H') (nw : ∀ b, F' b ≠ none → F b = none → H b = none) (pz : PzOk C.pa F' H' z') : StOk C σ ρ F' H' z' := by
  refine ⟨sub, S.f0.trans ff, S.h0.trans hk, fun b h1 h2 => ?_, S.len, fun i v s e1 e2 => ?_, S.apart, pz, fun b hb => ?_⟩
  · by_cases q : F b = none
    · have hb := nw b h1 q
      cases e : C.H0 b with
      | none => rfl
      | some o =>
        by_cases p : some b = C.pa
        · exact absurd (pz b p.symm).1 h1
        · have := S.h0 b o e p; rw [hb] at this; cases this
    · exact S.nw b q h2
  · have h := S.env i v s e1 e2
    cases s with
    | no => cases v <;> trivial
    | fr d =>
      cases v with
      | none => exact h.elim
      | some v => exact Rp.mono ff h
    | own ds =>
      cases v with
      | none => exact h.elim
      | some v =>
        obtain ⟨a, xs, rfl, ha, hf, h0, np, r, nh⟩ := h
        refine ⟨a, xs, rfl, hk a _ ha np, ?_, h0, np, RpL.mono ff r, nh⟩
        cases e : F' a with
        | none => rfl
        | some o =>
          have := nw a (by rw [e]; simp) hf
          rw [ha] at this; cases this
  · obtain ⟨h1, ⟨o, h2⟩, h3⟩ := S.hd b hb
    refine ⟨?_, ⟨o, hk b o h2 h3⟩, h3⟩
    cases e : F' b with
    | none => rfl
    | some u =>
      have := nw b (by rw [e]; simp) h1
      rw [h2] at this; cases this
/-- a new object, not frozen -/
theorem StOk.newH (S : StOk C σ ρ F H z) {p : Addr} {o : HO} (h : H p = none) : StOk C σ ρ F (upd H p o) z := by
  have hf : F p = none := S.sub.free h
  refine S.grow (Same.refl F) (Same.updR S.sub hf) (Keep.new h) (fun b h1 h2 => absurd h2 h1) fun q e => ?_
  obtain ⟨h1, x, y, h2, r⟩ := S.pz q e
  have ne : q ≠ p := ne_of_none h2 h
  exact ⟨h1, x, y, by rw [upd_ne ne]; exact h2, r⟩
/-- a new object, frozen at once -/
theorem StOk.newF (S : StOk C σ ρ F H z) {p : Addr} {o : HO} (h : H p = none) : StOk C σ ρ (upd F p o) (upd H p o) z := by
  have hf : F p = none := S.sub.free h
  refine S.grow (Same.new hf) (Same.upd2 S.sub hf) (Keep.new h) (fun b h1 h2 => ?_) fun q e => ?_
  · by_cases e : b = p
    · rw [e]; exact h
    · rw [upd_ne e] at h1; exact absurd h2 h1
  · obtain ⟨h1, x, y, h2, r⟩ := S.pz q e
    have ne : q ≠ p := ne_of_none h2 h
    exact ⟨by rw [upd_ne ne]; exact h1, x, y, by rw [upd_ne ne]; exact h2, r⟩
/-- an object that stands and is nobody's is frozen -/
theorem StOk.freeze (S : StOk C σ ρ F H z) {p : Addr} {o : HO} (hp : H p = some o) (hf : F p = none) (h0 : C.H0 p = none) (np : some p ≠ C.pa) (no : ∀ (i : Nat) xs, ρ[i]? = some (.own xs) → σ[i]? ≠ some (some (.ref p))) (nh : p ∉ C.hid) : StOk C σ ρ (upd F p o) H z := by
  have sub : Same (upd F p o) H := fun b u e => by
    by_cases q : b = p
    · subst q; rw [upd_same] at e; cases e; exact hp
    · rw [upd_ne q] at e; exact S.sub _ _ e
  refine ⟨sub, S.f0.trans (Same.new hf), S.h0, fun b h1 h2 => ?_, S.len, fun i v s e1 e2 => ?_, S.apart, fun q e => ?_, fun b hb => ?_⟩
  · by_cases e : b = p
    · rw [e]; exact h0
    · rw [upd_ne e] at h1; exact S.nw b h1 h2
  · have h := S.env i v s e1 e2
    cases s with
    | no => cases v <;> trivial
    | fr d =>
      cases v with
      | none => exact h.elim
      | some v => exact Rp.mono (Same.new hf) h
    | own ds =>
      cases v with
      | none => exact h.elim
      | some v =>
        obtain ⟨a, xs, rfl, ha, hf', h0', np', r, nh'⟩ := h
        have ne : a ≠ p := fun e => no i ds e2 (by rw [e1, e])
        exact ⟨a, xs, rfl, ha, by rw [upd_ne ne]; exact hf', h0', np', RpL.mono (Same.new hf) r, nh'⟩
  · obtain ⟨h1, r⟩ := S.pz q e
    have ne : q ≠ p := fun z => np (by rw [← z, e])
    exact ⟨by rw [upd_ne ne]; exact h1, r⟩
  · obtain ⟨h1, r⟩ := S.hd b hb
    have ne : b ≠ p := fun z => nh (by rw [← z]; exact hb)
    exact ⟨by rw [upd_ne ne]; exact h1, r⟩
end
end DL

namespace DL
open PySem PySem.Spec PyProof.Rows L2

/-! ## computations over slots, draws, errors: predicate transformers -/
abbrev E (α : Type) := Rho → (α → Rho → Int → Prop) → (Er → Rho → Int → Prop) → Int → Prop
abbrev E0 (α : Type) := (α → Int → Prop) → (Er → Int → Prop) → Int → Prop
def eb {α β : Type} (m : E α) (f : α → E β) : E β := fun ρ Q X z => m ρ (fun a ρ' z' => f a ρ' Q X z') X z
def ep {α : Type} (a : α) : E α := fun ρ Q _ z => Q a ρ z
def eP {α : Type} (p : (α → Prop) → Prop) : E α := fun ρ Q _ z => p fun a => Q a ρ z
def e0 {α : Type} (m : E0 α) : E α := fun ρ Q X z => m (fun a z' => Q a ρ z') (fun e z' => X e ρ z') z

/-- how an error lies -/
def ExR (C : CC) (F H : Hp) (e : Er) (cls : Value) (dd : Option Addr) : Prop := ∃ (A x : Addr) (v : V), C.mg e.1 = some (.ref A) ∧ cls = .ref A ∧ dd = some x ∧ F x = some (.xd [(("value" : Str), v)]) ∧ C.R F v e.2

/-- what is owned behind was owned ahead -/
def Ole (r' r : Rho) : Prop := ∀ (i : Nat) ys, r'[i]? = some (.own ys) → ∃ zs, r[i]? = some (.own zs)
theorem Ole.refl {r : Rho} : Ole r r := fun _ ys h => ⟨ys, h⟩
theorem Ole.trans {a b c : Rho} (h : Ole a b) (q : Ole b c) : Ole a c := fun i ys e => let ⟨zs, e1⟩ := h i ys e; q i zs e1
/-- the reading t does what m says; R ties the results -/
def Den {α β : Type} (C : CC) (W : WX) (t : L2.St → Hp → (β → Hp → Prop) → Prop) (m : E α) (R : Hp → Hp → Hp → β → α → Prop) : Prop :=
  ∀ (σ : L2.St) (ρ : Rho) (F H : Hp) (z : Int) (Qd : α → Rho → Int → Prop) (Xd : Er → Rho → Int → Prop) (Q : β → Hp → Prop), StOk C σ ρ F H z → m ρ Qd Xd z →
    (∀ a ρ' z' b F' H', Qd a ρ' z' → StOk C σ ρ' F' H' z' → Same F F' → Keep C.pa H H' → Ole ρ' ρ → R H F' H' b a → Q b H') →
    (∀ e ρ' z' cls dd F' H', Xd e ρ' z' → StOk C σ ρ' F' H' z' → Same F F' → ExR C F' H' e cls dd → W cls dd σ H') → t σ H Q

/-- a value that is frozen, or a list that stands as it is, its items frozen -/
def RT (C : CC) (F H : Hp) (v : V) (d : D) : Prop := C.R F v d ∨ ∃ a xs ds, v = .ref a ∧ d = .lst ds ∧ H a = some (.lst xs) ∧ some a ≠ C.pa ∧ C.RL F xs ds
/-- a new list of one's own -/
def RO (C : CC) (H F' H' : Hp) (v : V) (ds : List D) : Prop := ∃ a xs, v = .ref a ∧ H' a = some (.lst xs) ∧ F' a = none ∧ H a = none ∧ some a ≠ C.pa ∧ C.RL F' xs ds
section
variable {C : CC} {F F' H H' : Hp} {v : V} {d : D} {ds : List D}
theorem RT.keep (s : Same F F') (k : Keep C.pa H H') (h : RT C F H v d) : RT C F' H' v d := by
  rcases h with h | ⟨a, xs, ds, e1, e2, e3, e4, e5⟩
  · exact .inl (Rp.mono s h)
  · exact .inr ⟨a, xs, ds, e1, e2, k a _ e3 e4, e4, RpL.mono s e5⟩
theorem RT.int {i : Int} (h : RT C F H v (.int i)) : v = .int i := by
  rcases h with h | ⟨_, _, _, _, e, _⟩
  · cases h; rfl
  · cases e
theorem RT.bl {b : Bool} (h : RT C F H v (.bl b)) : v = .bl b := by
  rcases h with h | ⟨_, _, _, _, e, _⟩
  · cases h; rfl
  · cases e
theorem RT.str {b : Str} (h : RT C F H v (.str b)) : v = .str b := by
  rcases h with h | ⟨_, _, _, _, e, _⟩
  · cases h; rfl
  · cases e
theorem RT.non (h : RT C F H v .non) : v = .non := by
  rcases h with h | ⟨_, _, _, _, e, _⟩
  · cases h; rfl
  · cases e
theorem RT.lst (s : Same F H) (h : RT C F H v (.lst ds)) : ∃ a xs, v = .ref a ∧ H a = some (.lst xs) ∧ C.RL F xs ds ∧ some a ≠ C.pa := by
  rcases h with h | ⟨a, xs, es, e1, e2, e3, e4, e5⟩
  · cases h with | lst n q r => exact ⟨_, _, rfl, s _ _ q, r, n⟩
  · cases e2
    exact ⟨a, xs, e1, e3, e5, e4⟩
theorem RT.tup (s : Same F H) (h : RT C F H v (.tup ds)) : ∃ a xs, v = .ref a ∧ SqT C.K H a xs ∧ C.RL F xs ds := by
  rcases h with h | ⟨a, xs, es, e1, e2, _⟩
  · cases h with | tup q r => exact ⟨_, _, rfl, sqtSame s q, r⟩
  · cases e2
end

theorem RT.scr {C : CC} {F H : Hp} {v : V} {ns : List Int} (s : Same F H) (h : RT C F H v (.scr ns)) : ∃ a, v = .ref a ∧ SqL C.K H a (ns.map V.int) := by
  rcases h with h | ⟨a, xs, es, e1, e2, _⟩
  · cases h with | scr q => exact ⟨_, rfl, sqlSame s q⟩
  · cases e2

abbrev kR (C : CC) : Hp → Hp → Hp → V → D → Prop := fun _ F' _ v d => C.R F' v d
abbrev kT (C : CC) : Hp → Hp → Hp → V → D → Prop := fun _ F' H' v d => RT C F' H' v d
abbrev kL (C : CC) : Hp → Hp → Hp → List V → List D → Prop := fun _ F' _ v d => C.RL F' v d
abbrev kB : Hp → Hp → Hp → Bool → Bool → Prop := fun _ _ _ a b => a = b

/-- an expression: its value frozen; a passing one; a new list; arguments; a test -/
structure XE (X : Cx) (C : CC) (W : WX) (e : Expr) (m : E D) : Prop where
  ex : ∃ t, PE X e t ∧ Den C W t m (kR C)
structure XP (X : Cx) (C : CC) (W : WX) (e : Expr) (m : E D) : Prop where
  ex : ∃ t, PE X e t ∧ Den C W t m (kT C)
structure XO (X : Cx) (C : CC) (W : WX) (e : Expr) (m : E (List D)) : Prop where
  ex : ∃ t, PE X e t ∧ Den C W t m (RO C)
structure XA (X : Cx) (C : CC) (W : WX) (es : List Expr) (m : E (List D)) : Prop where
  ex : ∃ t, PA X es t ∧ Den C W t m (kL C)
structure XT (X : Cx) (C : CC) (W : WX) (e : Expr) (m : E Bool) : Prop where
  ex : ∃ t, PT X e t ∧ Den C W t m kB
structure XW (X : Cx) (C : CC) (W : WX) (e : Expr) (m : E Bool) : Prop where
  ex : ∃ t, PW X e t ∧ Den C W t m kB

/-- the context's facts -/
structure Kx (X : Cx) (C : CC) (W : WX) (k : Nat) : Prop where
  hK : X.K = C.K
  hmg : X.mg = C.mg
  calm : X.calm = true
  gu : X.A.guards = some []
  room : Room k X.A
  tk : Takes X W
  nd : X.N.Nodup
  po : PassesOwn (model X.prog X.w) X.A X.env X.xe
theorem Kx.hu {X : Cx} {C : CC} {W : WX} {k : Nat} (h : Kx X C W k) : X.A.units + 65 < cLine := by have := h.room.un; omega

section
variable {X : Cx} {C : CC} {W : WX} {e e1 e2 e3 a b c : Expr} {es : List Expr} {m ma mb mc : E D} {pos : Pos} {k : Nat}

theorem XE.p (h : XE X C W e m) : XP X C W e m := by
  obtain ⟨t, h1, h2⟩ := h.ex
  exact ⟨t, h1, fun σ ρ F H z Qd Xd Q S hm hq hx => h2 σ ρ F H z Qd Xd Q S hm (fun a ρ' z' b F' H' q S' ff hk ol r => hq a ρ' z' b F' H' q S' ff hk ol (.inl r)) hx⟩
/-- a new list, as a passing value -/
theorem XO.p {m : E (List D)} (h : XO X C W e m) : XP X C W e (eb m fun ds => ep (.lst ds)) := by
  obtain ⟨t, h1, h2⟩ := h.ex
  exact ⟨t, h1, fun σ ρ F H z Qd Xd Q S hm hq hx => h2 σ ρ F H z _ Xd Q S hm (fun ds ρ' z' b F' H' q S' ff hk ol ⟨a, xs, e1, e2, e3, e4, e5, e6⟩ => hq _ ρ' z' b F' H' q S' ff hk ol (.inr ⟨a, xs, ds, e1, rfl, e2, e5, e6⟩)) hx⟩
theorem StOk.notOwn {σ : L2.St} {ρ : Rho} {F H : Hp} {z : Int} (S : StOk C σ ρ F H z) {p : Addr} (h : H p = none) {ρ' : Rho} (ol : Ole ρ' ρ) : ∀ (i : Nat) ys, ρ'[i]? = some (.own ys) → σ[i]? ≠ some (some (.ref p)) := fun i ys r1 r2 => by
  obtain ⟨zs, r3⟩ := ol i ys r1
  obtain ⟨a, xs, e1, e2, _⟩ := S.env i _ _ r2 r3
  cases e1
  rw [h] at e2
  cases e2
theorem StOk.h0None {σ : L2.St} {ρ : Rho} {F H : Hp} {z : Int} (S : StOk C σ ρ F H z) {p : Addr} (h : H p = none) (np : some p ≠ C.pa) : C.H0 p = none := by
  cases q0 : C.H0 p with
  | none => rfl
  | some o => have := S.h0 p o q0 np; rw [h] at this; cases this
theorem StOk.notHid {σ : L2.St} {ρ : Rho} {F H : Hp} {z : Int} (S : StOk C σ ρ F H z) {p : Addr} (h : H p = none) : p ∉ C.hid := fun hp => by
  obtain ⟨_, ⟨o, e⟩, _⟩ := S.hd p hp
  rw [h] at e
  cases e
/-- .. frozen -/
theorem XO.fz {m : E (List D)} (h : XO X C W e m) : XE X C W e (eb m fun ds => ep (.lst ds)) := by
  obtain ⟨t, h1, h2⟩ := h.ex
  refine ⟨t, h1, fun σ ρ F H z Qd Xd Q S hm hq hx => h2 σ ρ F H z _ Xd Q S hm (fun ds ρ' z' b F' H' q S' ff hk ol ⟨a, xs, e1, e2, e3, e4, e5, e6⟩ => ?_) hx⟩
  refine hq _ ρ' z' b _ H' q (S'.freeze e2 e3 (S.h0None e4 e5) e5 (S.notOwn e4 ol) (S.notHid e4)) (ff.trans (Same.new e3)) hk ol ?_
  subst e1
  exact .lst e5 upd_same (RpL.mono (Same.new e3) e6)

/-! ## composing -/
/-- what a result's tie keeps when its start is set back -/
def Back {α β : Type} (C : CC) (R : Hp → Hp → Hp → β → α → Prop) : Prop := ∀ H H1 F' H' b a, Keep C.pa H H1 → R H1 F' H' b a → R H F' H' b a
theorem back_R : Back C (kR C) := fun _ _ _ _ _ _ _ h => h
theorem back_T : Back C (kT C) := fun _ _ _ _ _ _ _ h => h
theorem back_L : Back C (kL C) := fun _ _ _ _ _ _ _ h => h
theorem back_B : Back C kB := fun _ _ _ _ _ _ _ h => h
theorem back_O : Back C (RO C) := fun H H1 F' H' b a k ⟨p, xs, e1, e2, e3, e4, e5, e6⟩ => ⟨p, xs, e1, e2, e3, (by
  cases q : H p with
  | none => rfl
  | some o => have := k p o q e5; rw [e4] at this; cases this), e5, e6⟩
/-- one part, then what the rest does with it -/
theorem Den.bind {α β γ δ : Type} {t : L2.St → Hp → (β → Hp → Prop) → Prop} {u : β → L2.St → Hp → (δ → Hp → Prop) → Prop} {m1 : E α} {f : α → E γ} {R1 : Hp → Hp → Hp → β → α → Prop} {R : Hp → Hp → Hp → δ → γ → Prop} (hB : Back C R)
    (h1 : Den C W t m1 R1)
    (h2 : ∀ (H0 : Hp) (σ : L2.St) (ρ : Rho) (F H : Hp) (z : Int) (a : α) (b : β) (Qd : γ → Rho → Int → Prop) (Xd : Er → Rho → Int → Prop) (Q : δ → Hp → Prop), StOk C σ ρ F H z → R1 H0 F H b a → f a ρ Qd Xd z →
      (∀ c ρ' z' d F' H', Qd c ρ' z' → StOk C σ ρ' F' H' z' → Same F F' → Keep C.pa H H' → Ole ρ' ρ → R H F' H' d c → Q d H') →
      (∀ e ρ' z' cls dd F' H', Xd e ρ' z' → StOk C σ ρ' F' H' z' → Same F F' → ExR C F' H' e cls dd → W cls dd σ H') → u b σ H Q) :
    Den C W (fun σ H Q => t σ H fun b H1 => u b σ H1 Q) (eb m1 f) R := fun σ ρ F H z Qd Xd Q S hm hq hx =>
  h1 σ ρ F H z _ Xd _ S hm (fun a ρ1 z1 b F1 H1 q1 S1 ff1 k1 o1 r1 => h2 H σ ρ1 F1 H1 z1 a b Qd Xd Q S1 r1 q1
      (fun c ρ' z' d F' H' q' S' ff' k' o' r' => hq c ρ' z' d F' H' q' S' (ff1.trans ff') (k1.trans k') (o'.trans o1) (hB _ _ _ _ _ _ k1 r'))
      (fun e ρ' z' cls dd F' H' q' S' ff' r' => hx e ρ' z' cls dd F' H' q' S' (ff1.trans ff') r'))
    hx
/-- a two-place operation on passing values -/
def Op2 {α : Type} (C : CC) (W : WX) (r : R2) (f : D → D → E α) (R : Hp → Hp → Hp → V → α → Prop) : Prop :=
  ∀ (σ : L2.St) (ρ : Rho) (F H : Hp) (z : Int) (x y : V) (dx dy : D) (Qd : α → Rho → Int → Prop) (Xd : Er → Rho → Int → Prop) (Q : VK), StOk C σ ρ F H z → RT C F H x dx → RT C F H y dy → f dx dy ρ Qd Xd z →
    (∀ c ρ' z' d F' H', Qd c ρ' z' → StOk C σ ρ' F' H' z' → Same F F' → Keep C.pa H H' → Ole ρ' ρ → R H F' H' d c → Q d H') →
    (∀ e ρ' z' cls dd F' H', Xd e ρ' z' → StOk C σ ρ' F' H' z' → Same F F' → ExR C F' H' e cls dd → W cls dd σ H') → r x y H Q
theorem den_op {α : Type} {ta tb : TE} {r : R2} {f : D → D → E α} {R : Hp → Hp → Hp → V → α → Prop} (hB : Back C R) (ha : Den C W ta ma (kT C)) (hb : Den C W tb mb (kT C)) (ho : Op2 C W r f R) :
    Den C W (tOp r ta tb) (eb ma fun x => eb mb fun y => f x y) R :=
  Den.bind (u := fun x σ H Q => tb σ H fun y H2 => r x y H2 Q) hB ha fun H0 σ ρ F H z a x Qd Xd Q S ra hm hq hx =>
    hb σ ρ F H z _ Xd _ S hm (fun d ρ2 z2 y F2 H2 q2 S2 ff2 k2 o2 rb => ho σ ρ2 F2 H2 z2 x y a d Qd Xd Q S2 (ra.keep ff2 k2) rb q2
        (fun c ρ' z' d' F' H' q' S' ff' k' o' r' => hq c ρ' z' d' F' H' q' S' (ff2.trans ff') (k2.trans k') (o'.trans o2) (hB _ _ _ _ _ _ k2 r'))
        (fun e ρ' z' cls dd F' H' q' S' ff' r' => hx e ρ' z' cls dd F' H' q' S' (ff2.trans ff') r'))
      hx
/-- a one-place operation -/
def Op1 {α β : Type} (C : CC) (W : WX) (r : V → Hp → (β → Hp → Prop) → Prop) (f : D → E α) (R : Hp → Hp → Hp → β → α → Prop) : Prop :=
  ∀ (σ : L2.St) (ρ : Rho) (F H : Hp) (z : Int) (x : V) (dx : D) (Qd : α → Rho → Int → Prop) (Xd : Er → Rho → Int → Prop) (Q : β → Hp → Prop), StOk C σ ρ F H z → RT C F H x dx → f dx ρ Qd Xd z →
    (∀ c ρ' z' d F' H', Qd c ρ' z' → StOk C σ ρ' F' H' z' → Same F F' → Keep C.pa H H' → Ole ρ' ρ → R H F' H' d c → Q d H') →
    (∀ e ρ' z' cls dd F' H', Xd e ρ' z' → StOk C σ ρ' F' H' z' → Same F F' → ExR C F' H' e cls dd → W cls dd σ H') → r x H Q
theorem den_un {α β : Type} {ta : TE} {r : V → Hp → (β → Hp → Prop) → Prop} {f : D → E α} {R : Hp → Hp → Hp → β → α → Prop} (hB : Back C R) (ha : Den C W ta ma (kT C)) (ho : Op1 C W r f R) :
    Den C W (fun σ H Q => ta σ H fun x H1 => r x H1 Q) (eb ma f) R :=
  Den.bind (u := fun x _ H Q => r x H Q) hB ha fun H0 σ ρ F H z a x Qd Xd Q S ra hm hq hx => ho σ ρ F H z x a Qd Xd Q S ra hm hq hx

/-! ## new objects -/
theorem StOk.npa {σ : L2.St} {ρ : Rho} {F H : Hp} {z : Int} (S : StOk C σ ρ F H z) {p : Addr} (h : H p = none) : some p ≠ C.pa := fun e => by
  obtain ⟨_, x, y, h2, _⟩ := S.pz p e.symm
  rw [h] at h2
  cases h2
section
variable {σ : L2.St} {ρ : Rho} {F H : Hp} {z : Int} {p : Addr} {xs : List V} {ds : List D}
theorem StOk.newL (S : StOk C σ ρ F H z) (h : H p = none) (r : C.RL F xs ds) {Q : VK} {Qd : List D → Rho → Int → Prop} (hd : Qd ds ρ z)
    (hq : ∀ c ρ' z' d F' H', Qd c ρ' z' → StOk C σ ρ' F' H' z' → Same F F' → Keep C.pa H H' → Ole ρ' ρ → RO C H F' H' d c → Q d H') : Q (.ref p) (upd H p (.lst xs)) :=
  hq ds ρ z _ F _ hd (S.newH h) (Same.refl F) (Keep.new h) Ole.refl ⟨p, xs, rfl, upd_same, S.sub.free h, h, S.npa h, r⟩
theorem StOk.newT (S : StOk C σ ρ F H z) (h : H p = none) (r : C.RL F xs ds) {Q : VK} {Qd : D → Rho → Int → Prop} (hd : Qd (.tup ds) ρ z)
    (hq : ∀ c ρ' z' d F' H', Qd c ρ' z' → StOk C σ ρ' F' H' z' → Same F F' → Keep C.pa H H' → Ole ρ' ρ → C.R F' d c → Q d H') : Q (.ref p) (upd H p (.tup xs)) :=
  hq (.tup ds) ρ z _ _ _ hd (S.newF h) (Same.new (S.sub.free h)) (Keep.new h) Ole.refl (.tup (.inl (.inl upd_same)) (RpL.mono (Same.new (S.sub.free h)) r))
/-- nothing changes -/
theorem StOk.same (S : StOk C σ ρ F H z) {α β : Type} {R : Hp → Hp → Hp → β → α → Prop} {Q : β → Hp → Prop} {Qd : α → Rho → Int → Prop} {a : α} {b : β} (hd : Qd a ρ z) (r : R H F H b a)
    (hq : ∀ c ρ' z' d F' H', Qd c ρ' z' → StOk C σ ρ' F' H' z' → Same F F' → Keep C.pa H H' → Ole ρ' ρ → R H F' H' d c → Q d H') : Q b H :=
  hq a ρ z b F H hd S (Same.refl F) Keep.refl Ole.refl r
end

/-! ## names, constants -/
def eVar (i : Nat) : E D := fun ρ Q _ z => match ρ[i]? with
  | some (.fr d) => Q d ρ z
  | some (.own ds) => Q (.lst ds) (ρ.set i (.fr (.lst ds))) z
  | _ => False
/-- a name as it stands, not kept -/
def ePk (i : Nat) : E D := fun ρ Q _ z => match ρ[i]? with
  | some (.fr d) => Q d ρ z
  | some (.own ds) => Q (.lst ds) ρ z
  | _ => False
theorem st_get {σ : L2.St} {ρ : Rho} {F H : Hp} {z : Int} (S : StOk C σ ρ F H z) {i : Nat} {s : Sl} (h : ρ[i]? = some s) : ∃ v, σ[i]? = some v ∧ SlOk C F H v s := by
  have hi : i < σ.length := by rw [S.len]; exact (List.getElem?_eq_some_iff.mp h).1
  exact ⟨σ[i], List.getElem?_eq_getElem hi, S.env i _ _ (List.getElem?_eq_getElem hi) h⟩
theorem xp_var (i : Nat) {x : Str} {pos : Pos} (h : PE X (.Name x pos) (tVar i)) : XP X C W (.Name x pos) (ePk i) := by
  refine ⟨tVar i, h, fun σ ρ F H z Qd Xd Q S hm hq hx => ?_⟩
  unfold ePk at hm
  cases e : ρ[i]? with
  | none => rw [e] at hm; exact hm.elim
  | some s =>
    rw [e] at hm
    obtain ⟨v, e1, r⟩ := st_get S e
    cases s with
    | no => exact hm.elim
    | fr d =>
      cases v with
      | none => exact r.elim
      | some v => exact ⟨v, e1, S.same (R := kT C) hm (.inl r) hq⟩
    | own ds =>
      cases v with
      | none => exact r.elim
      | some v =>
        obtain ⟨a, xs, rfl, ha, hf, h0, np, rr, nh⟩ := r
        exact ⟨_, e1, S.same (R := kT C) hm (.inr ⟨a, xs, ds, rfl, rfl, ha, np, rr⟩) hq⟩
/-- a slot that was owned is frozen -/
theorem StOk.frz {σ : L2.St} {ρ : Rho} {F H : Hp} {z : Int} (S : StOk C σ ρ F H z) {i : Nat} {ds : List D} {a : Addr} {xs : List V} (h : ρ[i]? = some (.own ds)) (hs : σ[i]? = some (some (.ref a))) (ha : H a = some (.lst xs)) (hf : F a = none) (h0 : C.H0 a = none) (np : some a ≠ C.pa)
    (r : C.RL F xs ds) (nh : a ∉ C.hid) : StOk C σ (ρ.set i (.fr (.lst ds))) (upd F a (.lst xs)) H z := by
  have hi : i < ρ.length := (List.getElem?_eq_some_iff.mp h).1
  have hsub : Same (upd F a (.lst xs)) H := fun b u e => by
    by_cases q : b = a
    · subst q; rw [upd_same] at e; cases e; exact ha
    · rw [upd_ne q] at e; exact S.sub _ _ e
  refine ⟨hsub, S.f0.trans (Same.new hf), S.h0, fun b h1 h2 => ?_, by rw [List.length_set]; exact S.len, fun j v s e1 e2 => ?_, fun j k x y b e1 e2 e3 e4 => ?_, fun q e => ?_, fun b hb => ?_⟩
  · by_cases e : b = a
    · rw [e]; exact h0
    · rw [upd_ne e] at h1; exact S.nw b h1 h2
  · by_cases hj : j = i
    · subst hj
      rw [List.getElem?_set_self hi] at e2
      cases e2
      rw [hs] at e1
      cases e1
      exact .lst np upd_same (RpL.mono (Same.new hf) r)
    · rw [List.getElem?_set_ne (Ne.symm hj)] at e2
      have hh := S.env j v s e1 e2
      cases s with
      | no => cases v <;> trivial
      | fr d =>
        cases v with
        | none => exact hh.elim
        | some v => exact Rp.mono (Same.new hf) hh
      | own es =>
        cases v with
        | none => exact hh.elim
        | some v =>
          obtain ⟨b, ys, rfl, hb, hfb, h0b, npb, rb, nhb⟩ := hh
          have ne : b ≠ a := fun e => hj (S.apart j i es ds b e2 h e1 (by rw [hs, e]))
          exact ⟨b, ys, rfl, hb, by rw [upd_ne ne]; exact hfb, h0b, npb, RpL.mono (Same.new hf) rb, nhb⟩
  · have n1 : j ≠ i := fun e => by rw [e, List.getElem?_set_self hi] at e1; cases e1
    have n2 : k ≠ i := fun e => by rw [e, List.getElem?_set_self hi] at e2; cases e2
    rw [List.getElem?_set_ne (Ne.symm n1)] at e1
    rw [List.getElem?_set_ne (Ne.symm n2)] at e2
    exact S.apart j k x y b e1 e2 e3 e4
  · obtain ⟨h1, rr⟩ := S.pz q e
    have ne : q ≠ a := fun zz => np (by rw [← zz, e])
    exact ⟨by rw [upd_ne ne]; exact h1, rr⟩
  · obtain ⟨h1, rr⟩ := S.hd b hb
    have ne : b ≠ a := fun zz => nh (by rw [← zz]; exact hb)
    exact ⟨by rw [upd_ne ne]; exact h1, rr⟩
theorem ole_set {ρ : Rho} {i : Nat} {d : D} : Ole (ρ.set i (.fr d)) ρ := fun j ys h => by
  by_cases hj : j = i
  · subst hj
    by_cases hl : j < ρ.length
    · rw [List.getElem?_set_self hl] at h; cases h
    · rw [List.getElem?_eq_none (by rw [List.length_set]; omega)] at h; cases h
  · rw [List.getElem?_set_ne (Ne.symm hj)] at h
    exact ⟨ys, h⟩
theorem xe_var (i : Nat) {x : Str} {pos : Pos} (h : PE X (.Name x pos) (tVar i)) : XE X C W (.Name x pos) (eVar i) := by
  refine ⟨tVar i, h, fun σ ρ F H z Qd Xd Q S hm hq hx => ?_⟩
  unfold eVar at hm
  cases e : ρ[i]? with
  | none => rw [e] at hm; exact hm.elim
  | some s =>
    rw [e] at hm
    obtain ⟨v, e1, r⟩ := st_get S e
    cases s with
    | no => exact hm.elim
    | fr d =>
      cases v with
      | none => exact r.elim
      | some v => exact ⟨v, e1, S.same (R := kR C) hm r hq⟩
    | own ds =>
      cases v with
      | none => exact r.elim
      | some v =>
        obtain ⟨a, xs, rfl, ha, hf, h0, np, rr, nh⟩ := r
        exact ⟨_, e1, hq _ _ _ _ _ _ hm (S.frz e e1 ha hf h0 np rr nh) (Same.new hf) Keep.refl ole_set (.lst np upd_same (RpL.mono (Same.new hf) rr))⟩
theorem xe_c {v : V} {d : D} (h : PE X e (tC v)) (r : ∀ F, C.R F v d) : XE X C W e (ep d) := ⟨tC v, h, fun σ ρ F H z Qd Xd Q S hm hq hx => S.same (R := kR C) hm (r F) hq⟩
theorem xe_int {i : Int} {j pos} : XE X C W (.Constant (.int i) j pos) (ep (.int i)) := xe_c pe_int fun _ => .int i
theorem xe_bl {b : Bool} {j pos} : XE X C W (.Constant (.bool b) j pos) (ep (.bl b)) := xe_c pe_bl fun _ => .bl b
theorem xe_non {j pos} : XE X C W (.Constant .none j pos) (ep .non) := xe_c pe_non fun _ => .non
theorem xe_str {x : Str} {j pos} : XE X C W (.Constant (.str x) j pos) (ep (.str x)) := xe_c pe_str fun _ => .str x

/-! ## arguments, displays -/
theorem xa_nil : XA X C W [] (ep []) := ⟨tNil, pa_nil, fun σ ρ F H z Qd Xd Q S hm hq hx => S.same (R := kL C) hm .nil hq⟩
theorem xa_cons {ms : E (List D)} (h : XE X C W e m) (hs : XA X C W es ms) (hp : starEach (e :: es) X.env = (false, eval e X.env) :: starEach es X.env := by rfl) : XA X C W (e :: es) (eb m fun d => eb ms fun ds => ep (d :: ds)) := by
  obtain ⟨t, h1, h2⟩ := h.ex
  obtain ⟨ts, g1, g2⟩ := hs.ex
  refine ⟨tCons t ts, pa_cons h1 g1 hp, Den.bind (u := fun x σ H Q => ts σ H fun xs H2 => Q (x :: xs) H2) back_L h2 fun H0 σ ρ F H z a x Qd Xd Q S ra hm hq hx => ?_⟩
  exact g2 σ ρ F H z _ Xd _ S hm (fun ds ρ2 z2 xs F2 H2 q2 S2 ff2 k2 o2 rb => hq _ ρ2 z2 _ F2 H2 q2 S2 ff2 k2 o2 (.cons (Rp.mono ff2 ra) rb)) hx
def eTup (ms : E (List D)) : E D := eb ms fun ds ρ Q _ z => ds.length ≤ 16777216 ∧ Q (.tup ds) ρ z
def eLst (ms : E (List D)) : E (List D) := eb ms fun ds ρ Q _ z => ds.length ≤ 16777216 ∧ Q ds ρ z
theorem line_le {n : Nat} (h : n ≤ 16777216) : n ≤ sizeLine := by rw [sizeLine_eq]; exact h
theorem xe_tup {ms : E (List D)} {x1} (hs : XA X C W es ms) : XE X C W (.Tuple es x1 pos) (eTup ms) := by
  obtain ⟨ts, g1, g2⟩ := hs.ex
  refine ⟨tTup ts, pe_tup g1, ?_⟩
  refine Den.bind (u := fun (xs : List V) (_ : L2.St) (H : Hp) (Q : VK) => xs.length ≤ sizeLine ∧ ∀ p, H p = none → Q (.ref p) (upd H p (.tup xs))) (f := fun ds ρ Q _ z => ds.length ≤ 16777216 ∧ Q (.tup ds) ρ z) back_R g2 ?_
  intro H0 σ ρ F H z a xs Qd Xd Q S ra hm hq hx
  exact ⟨by rw [RpL.length ra]; exact line_le hm.1, fun p hp => S.newT hp ra hm.2 hq⟩
theorem xo_lst {ms : E (List D)} (hs : XA X C W es ms) : XO X C W (.List es pos) (eLst ms) := by
  obtain ⟨ts, g1, g2⟩ := hs.ex
  refine ⟨tLst ts, pe_lst g1, ?_⟩
  refine Den.bind (u := fun (xs : List V) (_ : L2.St) (H : Hp) (Q : VK) => xs.length ≤ sizeLine ∧ ∀ p, H p = none → Q (.ref p) (upd H p (.lst xs))) (f := fun ds ρ Q _ z => ds.length ≤ 16777216 ∧ Q ds ρ z) back_O g2 ?_
  intro H0 σ ρ F H z a xs Qd Xd Q S ra hm hq hx
  exact ⟨by rw [RpL.length ra]; exact line_le hm.1, fun p hp => S.newL hp ra hm.2 hq⟩
end
end DL

namespace DL
open PySem PySem.Spec PyProof.Rows L2

/-! ## data as the library's data -/
mutual
def D.py : D → PyData
  | .non => .none
  | .bl b => .bool b
  | .int i => .int i
  | .str s => .str s
  | .lst xs => .list (pyL xs)
  | .tup xs => .tuple (pyL xs)
  | .cel => .none
  | .ins _ _ _ => .none
  | .dic _ _ => .none
  | .exn _ _ _ _ => .none
  | .scr _ => .none
def pyL : List D → List PyData
  | [] => []
  | x :: r => x.py :: pyL r
end
mutual
def D.isPy : D → Bool
  | .non => true
  | .bl _ => true
  | .int _ => true
  | .str _ => true
  | .lst xs => isPyL xs
  | .tup xs => isPyL xs
  | .cel => false
  | .ins _ _ _ => false
  | .dic _ _ => false
  | .exn _ _ _ _ => false
  | .scr _ => false
def isPyL : List D → Bool
  | [] => true
  | x :: r => x.isPy && isPyL r
end
section
variable {K : PySem.W.Frag} {mg : Str → Option Value} {pa : Option Addr} {F H : Hp}
mutual
theorem Rp.dp (s : Same F H) : ∀ {d : D} {v : V}, Rp K mg pa F v d → d.isPy = true → Dp K H v d.py
  | .non, _, h, _ => by cases h; exact .non
  | .bl _, _, h, _ => by cases h; exact .bl _
  | .int _, _, h, _ => by cases h; exact .int _
  | .str _, _, h, _ => by cases h; exact .str _
  | .lst ds, _, h, q => by cases h with | lst n e r => exact .lst (.inl (.inl (s _ _ e))) (RpL.dp s r q)
  | .tup ds, _, h, q => by cases h with | tup e r => exact .tup (sqtSame s e) (RpL.dp s r q)
  | .cel, _, _, q => by cases q
  | .ins _ _ _, _, _, q => by cases q
  | .dic _ _, _, _, q => by cases q
  | .exn _ _ _ _, _, _, q => by cases q
  | .scr _, _, _, q => by cases q
theorem RpL.dp (s : Same F H) : ∀ {ds : List D} {vs : List V}, RpL K mg pa F vs ds → isPyL ds = true → DpAll K H vs (pyL ds)
  | [], _, h, _ => by cases h; exact .nil
  | d :: ds, _, h, q => by
    cases h with
    | cons a b =>
      obtain ⟨q1, q2⟩ := Bool.and_eq_true_iff.mp (show (d.isPy && isPyL ds) = true from q)
      exact .cons (Rp.dp s a q1) (RpL.dp s b q2)
end
end
theorem RT.dp {C : CC} {F H : Hp} {v : V} {d : D} (s : Same F H) (h : RT C F H v d) (q : d.isPy = true) : Dp C.K H v d.py := by
  rcases h with h | ⟨a, xs, ds, e1, e2, e3, e4, e5⟩
  · exact Rp.dp s h q
  · subst e1 e2
    exact .lst (.inl (.inl e3)) (RpL.dp s e5 q)

/-! ## what the operators do with data -/
abbrev P1 := D → (D → Prop) → Prop
abbrev P2 := D → D → (D → Prop) → Prop
def dAdd : P2
  | .int a, .int b, Q => Q (.int (a + b))
  | .str a, .str b, Q => a.length + b.length ≤ 16777216 ∧ Q (.str (a ++ b))
  | .tup a, .tup b, Q => a.length + b.length ≤ 16777216 ∧ Q (.tup (a ++ b))
  | .lst a, .lst b, Q => a.length + b.length ≤ 16777216 ∧ Q (.lst (a ++ b))
  | _, _, _ => False
def dCat : D → D → (List D → Prop) → Prop
  | .lst a, .lst b, Q => a.length + b.length ≤ 16777216 ∧ Q (a ++ b)
  | _, _, _ => False
def dSub : P2
  | .int a, .int b, Q => Q (.int (a - b))
  | _, _, _ => False
/-- * asks: one factor small, or both of bounded size -/
def MulC (a b : Int) : Prop := a.natAbs < 2 ^ 63 ∨ b.natAbs < 2 ^ 63 ∨ CMulW a b
def dMul : P2
  | .int a, .int b, Q => MulC a b ∧ Q (.int (a * b))
  | _, _, _ => False
def dDiv : P2
  | .int a, .int b, Q => (b ≠ 0 ∧ b.natAbs.log2 < 9000) ∧ Q (.int (a.fdiv b))
  | _, _, _ => False
def dMod : P2
  | .int a, .int b, Q => b ≠ 0 ∧ Q (.int (a.fmod b))
  | _, _, _ => False
def dPow : P2
  | .int a, .int b, Q => (0 ≤ b ∧ (Builtin.Int.intBits a : Int) * b ≤ 2 ^ 27) ∧ Q (.int (a ^ b.toNat))
  | _, _, _ => False
def dEqG (a b : D) (Q : Bool → Prop) : Prop := (a.isPy = true ∧ b.isPy = true ∧ SeqAt.shaped a.py = true ∧ SeqAt.shaped b.py = true) ∧ Q (PyData.eqv a.py b.py)
/-- == -/
def dEqB : D → D → (Bool → Prop) → Prop
  | .int a, .int b, Q => Q (decide (a = b))
  | .str a, .str b, Q => Q (decide (a = b))
  | .bl a, .bl b, Q => Q (decide (a = b))
  | a, b, Q => dEqG a b Q
def dEq : P2 := fun a b Q => dEqB a b fun t => Q (.bl t)
def dNe : P2 := fun a b Q => dEqB a b fun t => Q (.bl (!t))
def dLt : P2
  | .int a, .int b, Q => Q (.bl (decide (a < b)))
  | .str a, .str b, Q => Q (.bl (decide (a.cps.toList < b.cps.toList)))
  | _, _, _ => False
def dLe : P2
  | .int a, .int b, Q => Q (.bl (decide (a ≤ b)))
  | _, _, _ => False
def dGt : P2
  | .int a, .int b, Q => Q (.bl (decide (b < a)))
  | _, _, _ => False
def dGe : P2
  | .int a, .int b, Q => Q (.bl (decide (b ≤ a)))
  | _, _, _ => False
def dIsN : P2
  | a, .non, Q => Q (.bl (match a with | .non => true | _ => false))
  | _, _, _ => False
def dNotN : P2
  | a, .non, Q => Q (.bl (match a with | .non => false | _ => true))
  | _, _, _ => False
/-- in -/
def dInB : D → D → (Bool → Prop) → Prop
  | .str a, .str b, Q => Q (!(Builtin.Str.occurrences b a 0 b.length 1).isEmpty)
  | a, .lst ds, Q => (a.isPy = true ∧ isPyL ds = true ∧ SeqAt.shaped a.py = true ∧ SeqAt.shaped (.list (pyL ds)) = true) ∧ Q ((pyL ds).any fun z => PyData.eqv z a.py)
  | _, _, _ => False
def dIn : P2 := fun a b Q => dInB a b fun t => Q (.bl t)
def dNotIn : P2 := fun a b Q => dInB a b fun t => Q (.bl (!t))
def dNeg : P1
  | .int a, Q => Q (.int (-a))
  | _, _ => False
def dNot : P1
  | .bl a, Q => Q (.bl (!a))
  | _, _ => False
def dIx : P2
  | .lst ds, .int i, Q => ∃ d, atI ds i = some d ∧ Q d
  | .tup ds, .int i, Q => ∃ d, atI ds i = some d ∧ Q d
  | .str s, .int i, Q => s.length ≤ 16777216 ∧ ∃ c, atI s.cps.toList i = some c ∧ Q (.str ⟨#[c]⟩)
  | .scr ns, .int i, Q => ∃ j, atI ns i = some j ∧ Q (.int j)
  | _, _, _ => False
/-- truth -/
def dTru : D → (Bool → Prop) → Prop
  | .non, Q => Q false
  | .bl b, Q => Q b
  | .int i, Q => Q (i != 0)
  | .str s, Q => s.length ≤ 16777216 ∧ Q ((s.length : Int) != 0)
  | .lst ds, Q => Q (!ds.isEmpty)
  | .tup ds, Q => Q (!ds.isEmpty)
  | _, _ => False

section
variable {X : Cx} {C : CC} {W : WX} {e a b c : Expr} {es : List Expr} {m ma mb mc : E D} {pos : Pos} {k : Nat}
/-- an operation whose answer is no new object -/
theorem op2_flat {r : R2} {p : P2} (h : ∀ (F H : Hp) (x y : V) (dx dy : D) (Q : VK) (Qd : D → Prop), Same F H → RT C F H x dx → RT C F H y dy → p dx dy Qd → (∀ d v, Qd d → C.R F v d → Q v H) → r x y H Q) :
    Op2 C W r (fun a b => eP (p a b)) (kR C) := fun σ ρ F H z x y dx dy Qd Xd Q S rx ry hm hq hx => h F H x y dx dy Q _ S.sub rx ry hm fun d v q rv => S.same (R := kR C) q rv hq
theorem op1_flat {r : V → Hp → VK → Prop} {p : P1} (h : ∀ (F H : Hp) (x : V) (dx : D) (Q : VK) (Qd : D → Prop), Same F H → RT C F H x dx → p dx Qd → (∀ d v, Qd d → C.R F v d → Q v H) → r x H Q) :
    Op1 C W r (fun a => eP (p a)) (kR C) := fun σ ρ F H z x dx Qd Xd Q S rx hm hq hx => h F H x dx Q _ S.sub rx hm fun d v q rv => S.same (R := kR C) q rv hq
theorem op1_test {r : V → Hp → (Bool → Hp → Prop) → Prop} {p : D → (Bool → Prop) → Prop} (h : ∀ (F H : Hp) (x : V) (dx : D) (Q : Bool → Hp → Prop) (Qd : Bool → Prop), Same F H → RT C F H x dx → p dx Qd → (∀ d, Qd d → Q d H) → r x H Q) :
    Op1 C W r (fun a => eP (p a)) kB := fun σ ρ F H z x dx Qd Xd Q S rx hm hq hx => h F H x dx Q _ S.sub rx hm fun d q => S.same (R := kB) q rfl hq

theorem xe_op {op : Operator} {r : R2} {f : D → D → E D} (h : OpR X (binaryOp op) r) (ho : Op2 C W r f (kR C)) (ha : XP X C W a ma) (hb : XP X C W b mb) : XE X C W (.BinOp a op b pos) (eb ma fun x => eb mb fun y => f x y) := by
  obtain ⟨ta, a1, a2⟩ := ha.ex
  obtain ⟨tb, b1, b2⟩ := hb.ex
  exact ⟨_, pe_op h a1 b1, den_op back_R a2 b2 ho⟩
theorem xe_cmp {op : CmpOp} {r : R2} {f : D → D → E D} (h : OpR X (compareOp op) r) (ho : Op2 C W r f (kR C)) (ha : XP X C W a ma) (hb : XP X C W b mb) (hm : behindInMarks op b = false) : XE X C W (.Compare a [op] [b] pos) (eb ma fun x => eb mb fun y => f x y) := by
  obtain ⟨ta, a1, a2⟩ := ha.ex
  obtain ⟨tb, b1, b2⟩ := hb.ex
  exact ⟨_, pe_cmpR h a1 b1 hm, den_op back_R a2 b2 ho⟩
/-- a bool's test -/
def fT : D → E Bool
  | .bl t => ep t
  | _ => fun _ _ _ _ => False
def eT (m : E D) : E Bool := eb m fT
theorem den_test {t : TE} {m : E D} (h : Den C W t m (kR C)) : Den C W (tTest t) (eT m) kB := by
  refine Den.bind (u := fun (x : V) (_ : L2.St) (H : Hp) (Q : Bool → Hp → Prop) => ∃ k, x = .bl k ∧ Q k H) (f := fT) back_B h ?_
  intro H0 σ ρ F H z d x Qd Xd Q S ra hm hq hx
  cases d with
  | bl t =>
    cases ra
    exact ⟨t, rfl, S.same (R := kB) hm rfl hq⟩
  | _ => exact False.elim hm
theorem xt_cmp {op : CmpOp} {r : R2} {f : D → D → E D} (h : OpR X (compareOp op) r) (ho : Op2 C W r f (kR C)) (ha : XP X C W a ma) (hb : XP X C W b mb) (hm : behindInMarks op b = false) : XT X C W (.Compare a [op] [b] pos) (eT (eb ma fun x => eb mb fun y => f x y)) := by
  obtain ⟨ta, a1, a2⟩ := ha.ex
  obtain ⟨tb, b1, b2⟩ := hb.ex
  exact ⟨_, pt_cmpR h a1 b1 hm, den_test (den_op back_R a2 b2 ho)⟩

/-! ### the operators -/
theorem o_sub : Op2 C W (rI0 fun i j => .int (i - j)) (fun a b => eP (dSub a b)) (kR C) := op2_flat fun F H x y dx dy Q Qd s rx ry hp hq => by
  cases dx <;> cases dy <;> first | exact hp.elim | exact ⟨_, _, rx.int, ry.int, hq _ _ hp (.int _)⟩
theorem bits_le {i : Int} {n : Nat} (h : i.natAbs < 2 ^ n) (hn : 0 < n) : Builtin.Int.intBits i ≤ n := by
  have := PySem.Flt.log2_lt_of hn h
  unfold Builtin.Int.intBits
  split <;> omega
theorem op_mulG : OpR X (binaryOp .Mult) (rI MulC fun i j => .int (i * j)) := opI fun i j t u s Q E hc q => by
  refine mul_int q ?_
  rcases hc with h | h | h
  · exact IntMulOk.of_left (Nat.le_trans (bits_le h (by omega)) (by omega))
  · exact IntMulOk.of_right (Nat.le_trans (bits_le h (by omega)) (by omega))
  · exact h.ok
theorem o_mul : Op2 C W (rI MulC fun i j => .int (i * j)) (fun a b => eP (dMul a b)) (kR C) := op2_flat fun F H x y dx dy Q Qd s rx ry hp hq => by
  cases dx <;> cases dy <;> first | exact hp.elim | exact ⟨_, _, rx.int, ry.int, hp.1, hq _ _ hp.2 (.int _)⟩
theorem op_divG : OpR X (binaryOp .FloorDiv) (rI (fun _ j => j ≠ 0 ∧ j.natAbs.log2 < 9000) fun i j => .int (i.fdiv j)) :=
  opI fun i j t u s Q E hc q => floordiv_int hc.1 q (.inl (PyProof.noPylong_of_log2 hc.2))
theorem o_div : Op2 C W (rI (fun _ j => j ≠ 0 ∧ j.natAbs.log2 < 9000) fun i j => .int (i.fdiv j)) (fun a b => eP (dDiv a b)) (kR C) := op2_flat fun F H x y dx dy Q Qd s rx ry hp hq => by
  cases dx <;> cases dy <;> first | exact hp.elim | exact ⟨_, _, rx.int, ry.int, hp.1, hq _ _ hp.2 (.int _)⟩
theorem o_mod : Op2 C W (rI (fun _ j => j ≠ 0) fun i j => .int (i.fmod j)) (fun a b => eP (dMod a b)) (kR C) := op2_flat fun F H x y dx dy Q Qd s rx ry hp hq => by
  cases dx <;> cases dy <;> first | exact hp.elim | exact ⟨_, _, rx.int, ry.int, hp.1, hq _ _ hp.2 (.int _)⟩
theorem op_powG : OpR X (binaryOp .Pow) (rI (fun i j => 0 ≤ j ∧ (Builtin.Int.intBits i : Int) * j ≤ 2 ^ 27) fun i j => .int (i ^ j.toNat)) :=
  opI fun i j t u s Q E hc q => pow_int hc.1 hc.2 q
theorem o_pow : Op2 C W (rI (fun i j => 0 ≤ j ∧ (Builtin.Int.intBits i : Int) * j ≤ 2 ^ 27) fun i j => .int (i ^ j.toNat)) (fun a b => eP (dPow a b)) (kR C) := op2_flat fun F H x y dx dy Q Qd s rx ry hp hq => by
  cases dx <;> cases dy <;> first | exact hp.elim | exact ⟨_, _, rx.int, ry.int, hp.1, hq _ _ hp.2 (.int _)⟩
def rAdd4 (K : PySem.W.Frag) : R2 := fun x y H Q => rI0 (fun i j => .int (i + j)) x y H Q ∨ (∃ i j, x = .str i ∧ y = .str j ∧ i.length + j.length ≤ sizeLine ∧ Q (.str (i ++ j)) H) ∨ rCat x y H Q ∨ rCatA K x y H Q
theorem op_add4 : OpR X (binaryOp .Add) (rAdd4 X.K) := op_add.or (op_add_str.or (op_cat.or op_catA))
theorem o_add : Op2 C W (rAdd4 C.K) (fun a b => eP (dAdd a b)) (kR C) := fun σ ρ F H z x y dx dy Qd Xd Q S rx ry hm hq hx => by
  cases dx <;> cases dy <;> first | exact hm.elim | skip
  · exact .inl ⟨_, _, rx.int, ry.int, S.same (R := kR C) hm (.int _) hq⟩
  · exact .inr (.inl ⟨_, _, rx.str, ry.str, line_le hm.1, S.same (R := kR C) hm.2 (.str _) hq⟩)
  · obtain ⟨p, xs, e1, e2, e3, e4⟩ := rx.lst S.sub
    obtain ⟨q, ys, f1, f2, f3, f4⟩ := ry.lst S.sub
    refine .inr (.inr (.inl ⟨p, q, xs, ys, e1, f1, e2, f2, by rw [RpL.length e3, RpL.length f3]; exact line_le hm.1, fun n hn => ?_⟩))
    have hF : F n = none := S.sub.free hn
    have hr := RpL.mono (Same.new (o := .lst (xs ++ ys)) hF) (RpL.append e3 f3)
    exact hq _ ρ z _ _ _ hm.2 (S.newF hn) (Same.new hF) (Keep.new hn) Ole.refl (.lst (S.npa hn) upd_same hr)
  · rename_i ds1 ds2
    obtain ⟨p, xs, e1, e2, e3⟩ := rx.tup S.sub
    obtain ⟨q, ys, f1, f2, f3⟩ := ry.tup S.sub
    refine .inr (.inr (.inr ⟨p, q, xs, ys, e1, f1, e2, f2, by rw [RpL.length e3, RpL.length f3]; exact line_le hm.1, fun hz => ?_, fun _ hz => ?_, fun _ _ n hn => ?_⟩))
    · subst hz
      cases e3
      have ry' : C.R F (.ref q) (.tup ds2) := by
        rcases ry with h | ⟨_, _, _, _, h, _⟩
        · rw [f1] at h; exact h
        · cases h
      exact S.same (R := kR C) hm.2 ry' hq
    · subst hz
      cases f3
      have rx' : C.R F (.ref p) (.tup ds1) := by
        rcases rx with h | ⟨_, _, _, _, h, _⟩
        · rw [e1] at h; exact h
        · cases h
      have hm2 := hm.2
      rw [List.append_nil] at hm2
      exact S.same (R := kR C) hm2 rx' hq
    · exact S.newT hn (RpL.append e3 f3) hm.2 hq
theorem o_cat : Op2 C W (rAdd4 C.K) (fun a b => eP (dCat a b)) (RO C) := fun σ ρ F H z x y dx dy Qd Xd Q S rx ry hm hq hx => by
  cases dx <;> cases dy <;> first | exact hm.elim | skip
  obtain ⟨p, xs, e1, e2, e3, e4⟩ := rx.lst S.sub
  obtain ⟨q, ys, f1, f2, f3, f4⟩ := ry.lst S.sub
  exact .inr (.inr (.inl ⟨p, q, xs, ys, e1, f1, e2, f2, by rw [RpL.length e3, RpL.length f3]; exact line_le hm.1, fun n hn => S.newL hn (RpL.append e3 f3) hm.2 hq⟩))
def rEq2 (K : PySem.W.Frag) : R2 := fun x y H Q => rEq x y H Q ∨ rEqD K x y H Q
def rNe2 (K : PySem.W.Frag) : R2 := fun x y H Q => rNe x y H Q ∨ rNeD K x y H Q
theorem op_eq2 (hu : X.A.units + 65 < cLine) : OpR X (compareOp .Eq) (rEq2 X.K) := op_eq.or (op_eqD (by omega))
theorem op_ne2 (hu : X.A.units + 65 < cLine) : OpR X (compareOp .NotEq) (rNe2 X.K) := op_ne.or (op_neD (by omega))
theorem eqG_to {F H : Hp} {x y : V} {dx dy : D} {Qd : Bool → Prop} (s : Same F H) (rx : RT C F H x dx) (ry : RT C F H y dy) (h : dEqG dx dy Qd) :
    Dp C.K H x dx.py ∧ Dp C.K H y dy.py ∧ SeqAt.shaped dx.py = true ∧ SeqAt.shaped dy.py = true ∧ Qd (PyData.eqv dx.py dy.py) := by
  obtain ⟨⟨h1, h2, h3, h4⟩, h5⟩ := h
  exact ⟨rx.dp s h1, ry.dp s h2, h3, h4, h5⟩
theorem o_eq : Op2 C W (rEq2 C.K) (fun a b => eP (dEq a b)) (kR C) := op2_flat fun F H x y dx dy Q Qd s rx ry hp hq => by
  have gen : dEqG dx dy (fun t => Qd (.bl t)) → rEq2 C.K x y H Q := fun h => by
    obtain ⟨h1, h2, h3, h4, h5⟩ := eqG_to s rx ry h
    exact .inr ⟨_, _, h1, h2, h3, h4, hq _ _ h5 (.bl _)⟩
  cases dx <;> cases dy <;> first
    | exact gen hp
    | (refine .inl ?_
       first
         | (rw [rx.int, ry.int]; exact ⟨rfl, hq _ _ hp (by rw [dec_int]; exact .bl _)⟩)
         | (rw [rx.int, ry.int]; refine ⟨rfl, ?_⟩; rw [dec_int]; exact hq _ _ hp (.bl _))
         | (rw [rx.str, ry.str]; refine ⟨rfl, ?_⟩; rw [dec_str]; exact hq _ _ hp (.bl _))
         | (rw [rx.bl, ry.bl]; refine ⟨rfl, ?_⟩; rw [dec_bl]; exact hq _ _ hp (.bl _)))
theorem o_ne : Op2 C W (rNe2 C.K) (fun a b => eP (dNe a b)) (kR C) := op2_flat fun F H x y dx dy Q Qd s rx ry hp hq => by
  have gen : dEqG dx dy (fun t => Qd (.bl (!t))) → rNe2 C.K x y H Q := fun h => by
    obtain ⟨h1, h2, h3, h4, h5⟩ := eqG_to s rx ry h
    exact .inr ⟨_, _, h1, h2, h3, h4, hq _ _ h5 (.bl _)⟩
  cases dx <;> cases dy <;> first
    | exact gen hp
    | (refine .inl ?_
       first
         | (rw [rx.int, ry.int]; refine ⟨rfl, ?_⟩; rw [dec_int]; exact hq _ _ hp (.bl _))
         | (rw [rx.str, ry.str]; refine ⟨rfl, ?_⟩; rw [dec_str]; exact hq _ _ hp (.bl _))
         | (rw [rx.bl, ry.bl]; refine ⟨rfl, ?_⟩; rw [dec_bl]; exact hq _ _ hp (.bl _)))
def rLt2 : R2 := fun x y H Q => rI0 (fun i j => .bl (decide (i < j))) x y H Q ∨ (∃ i j, x = .str i ∧ y = .str j ∧ Q (.bl (decide (i.cps.toList < j.cps.toList))) H)
theorem op_lt2 : OpR X (compareOp .Lt) rLt2 := op_lt.or op_lt_str
theorem o_lt : Op2 C W rLt2 (fun a b => eP (dLt a b)) (kR C) := op2_flat fun F H x y dx dy Q Qd s rx ry hp hq => by
  cases dx <;> cases dy <;> first | exact hp.elim | exact .inl ⟨_, _, rx.int, ry.int, hq _ _ hp (.bl _)⟩ | exact .inr ⟨_, _, rx.str, ry.str, hq _ _ hp (.bl _)⟩
theorem o_le : Op2 C W (rI0 fun i j => .bl (decide (i ≤ j))) (fun a b => eP (dLe a b)) (kR C) := op2_flat fun F H x y dx dy Q Qd s rx ry hp hq => by
  cases dx <;> cases dy <;> first | exact hp.elim | exact ⟨_, _, rx.int, ry.int, hq _ _ hp (.bl _)⟩
theorem o_gt : Op2 C W (rI0 fun i j => .bl (decide (j < i))) (fun a b => eP (dGt a b)) (kR C) := op2_flat fun F H x y dx dy Q Qd s rx ry hp hq => by
  cases dx <;> cases dy <;> first | exact hp.elim | exact ⟨_, _, rx.int, ry.int, hq _ _ hp (.bl _)⟩
theorem o_ge : Op2 C W (rI0 fun i j => .bl (decide (j ≤ i))) (fun a b => eP (dGe a b)) (kR C) := op2_flat fun F H x y dx dy Q Qd s rx ry hp hq => by
  cases dx <;> cases dy <;> first | exact hp.elim | exact ⟨_, _, rx.int, ry.int, hq _ _ hp (.bl _)⟩
theorem RT.isNon {F H : Hp} {v : V} {d : D} (h : RT C F H v d) : decide (v = .non) = (match d with | .non => true | _ => false) := by
  rcases h with h | ⟨_, _, _, e1, e2, _⟩
  · cases h <;> rfl
  · subst e1 e2; rfl
theorem o_isN : Op2 C W (fun x y H Q => y = .non ∧ Q (.bl (decide (x = .non))) H) (fun a b => eP (dIsN a b)) (kR C) := op2_flat fun F H x y dx dy Q Qd s rx ry hp hq => by
  cases dy
  all_goals first
    | (refine ⟨ry.non, ?_⟩; rw [rx.isNon]; exact hq _ _ (by cases dx <;> exact hp) (.bl _))
    | (cases dx <;> exact False.elim hp)
theorem o_notN : Op2 C W (fun x y H Q => y = .non ∧ Q (.bl (!decide (x = .non))) H) (fun a b => eP (dNotN a b)) (kR C) := op2_flat fun F H x y dx dy Q Qd s rx ry hp hq => by
  cases dy
  all_goals first
    | (refine ⟨ry.non, ?_⟩; rw [rx.isNon]; exact hq _ _ (by cases dx <;> exact hp) (.bl _))
    | (cases dx <;> exact False.elim hp)
def rIn2 (K : PySem.W.Frag) : R2 := fun x y H Q => (∃ i j, x = .str i ∧ y = .str j ∧ Q (.bl (!(Builtin.Str.occurrences j i 0 j.length 1).isEmpty)) H) ∨ rInD K x y H Q
def rNotIn2 (K : PySem.W.Frag) : R2 := fun x y H Q => (∃ i j, x = .str i ∧ y = .str j ∧ Q (.bl (!(!(Builtin.Str.occurrences j i 0 j.length 1).isEmpty))) H) ∨ rNotInD K x y H Q
theorem op_in2 (hu : X.A.units + 65 < cLine) : OpR X (compareOp .In) (rIn2 X.K) := op_in_str.or (op_inD hu)
theorem op_notIn2 (hu : X.A.units + 65 < cLine) : OpR X (compareOp .NotIn) (rNotIn2 X.K) := op_notIn_str.or (op_notInD hu)
theorem o_in : Op2 C W (rIn2 C.K) (fun a b => eP (dIn a b)) (kR C) := op2_flat fun F H x y dx dy Q Qd s rx ry hp hq => by
  cases dy <;> first
    | (cases dx <;> first | exact hp.elim | exact .inl ⟨_, _, rx.str, ry.str, hq _ _ hp (.bl _)⟩)
    | skip
  rename_i ds
  have hp' : (dx.isPy = true ∧ isPyL ds = true ∧ SeqAt.shaped dx.py = true ∧ SeqAt.shaped (.list (pyL ds)) = true) ∧ Qd (.bl ((pyL ds).any fun z => PyData.eqv z dx.py)) := by cases dx <;> exact hp
  obtain ⟨⟨h1, h2, h3, h4⟩, h5⟩ := hp'
  exact .inr ⟨_, _, rx.dp s h1, ry.dp s h2, h3, h4, hq _ _ h5 (.bl _)⟩
theorem o_notIn : Op2 C W (rNotIn2 C.K) (fun a b => eP (dNotIn a b)) (kR C) := op2_flat fun F H x y dx dy Q Qd s rx ry hp hq => by
  cases dy <;> first
    | (cases dx <;> first | exact hp.elim | exact .inl ⟨_, _, rx.str, ry.str, hq _ _ hp (.bl _)⟩)
    | skip
  rename_i ds
  have hp' : (dx.isPy = true ∧ isPyL ds = true ∧ SeqAt.shaped dx.py = true ∧ SeqAt.shaped (.list (pyL ds)) = true) ∧ Qd (.bl (!(pyL ds).any fun z => PyData.eqv z dx.py)) := by cases dx <;> exact hp
  obtain ⟨⟨h1, h2, h3, h4⟩, h5⟩ := hp'
  exact .inr ⟨_, _, rx.dp s h1, ry.dp s h2, h3, h4, hq _ _ h5 (.bl _)⟩
theorem o_neg : Op1 C W (rU fun i => .int (-i)) (fun a => eP (dNeg a)) (kR C) := op1_flat fun F H x dx Q Qd s rx hp hq => by
  cases dx <;> first | exact hp.elim | exact ⟨_, rx.int, hq _ _ hp (.int _)⟩
theorem xe_neg (ha : XP X C W a ma) : XE X C W (.UnaryOp .USub a pos) (eb ma fun x => eP (dNeg x)) := by
  obtain ⟨ta, a1, a2⟩ := ha.ex
  exact ⟨_, pe_un un_neg a1, den_un (β := V) (r := rU fun i => .int (-i)) back_R a2 o_neg⟩
/-- not, of a bool -/
theorem xe_not (ha : XP X C W a ma) : XE X C W (.UnaryOp .Not a pos) (eb ma fun x => eP (dNot x)) := by
  obtain ⟨ta, a1, a2⟩ := ha.ex
  refine ⟨_, pe_not a1, ?_⟩
  refine den_un (β := V) (r := fun x H (Q : VK) => ∃ c, x = .bl c ∧ Q (.bl (!c)) H) (f := fun x => eP (dNot x)) back_R a2 (op1_flat fun F H x dx Q Qd s rx hp hq => ?_)
  cases dx <;> first | exact hp.elim | exact ⟨_, rx.bl, hq _ _ hp (.bl _)⟩

/-! ### truth, tests -/
theorem o_tru : Op1 C W (fun x H Q => ∃ k, TruV C.K x H k ∧ Q k H) (fun a => eP (dTru a)) kB := op1_test fun F H x dx Q Qd s rx hp hq => by
  cases dx <;> first | exact hp.elim | skip
  · rw [rx.non]; exact ⟨_, rfl, hq _ hp⟩
  · rw [rx.bl]; exact ⟨_, rfl, hq _ hp⟩
  · rw [rx.int]; exact ⟨_, rfl, hq _ hp⟩
  · rw [rx.str]; exact ⟨_, ⟨line_le hp.1, rfl⟩, hq _ hp.2⟩
  · rename_i ds
    obtain ⟨p, xs, e1, e2, e3, e4⟩ := rx.lst s
    subst e1
    have e : (!xs.isEmpty) = !ds.isEmpty := by cases e3 <;> rfl
    exact ⟨_, .inl ⟨xs, .inl (.inl e2), e.symm⟩, hq _ hp⟩
  · rename_i ds
    obtain ⟨p, xs, e1, e2, e3⟩ := rx.tup s
    subst e1
    have e : (!xs.isEmpty) = !ds.isEmpty := by cases e3 <;> rfl
    exact ⟨_, .inr (.inl ⟨xs, e2, e.symm⟩), hq _ hp⟩
/-- any value, by its truth -/
theorem xt_tru (hk : X.K = C.K) (ha : XP X C W a ma) (he : ∀ whole, isTrue a X.env whole = (do let v ← whole; standAt a.pos; holding [v] (truthy v)) := by intro _; rfl) : XT X C W a (eb ma fun x => eP (dTru x)) := by
  obtain ⟨ta, a1, a2⟩ := ha.ex
  refine ⟨_, pt_truth a1 he, ?_⟩
  rw [hk]
  exact den_un (r := fun x H (Q : Bool → Hp → Prop) => ∃ k, TruV C.K x H k ∧ Q k H) back_B a2 o_tru
theorem xt_not {mt : E Bool} (ha : XT X C W a mt) : XT X C W (.UnaryOp .Not a pos) (eb mt fun t => ep (!t)) := by
  obtain ⟨ta, a1, a2⟩ := ha.ex
  refine ⟨_, pt_not a1, ?_⟩
  exact Den.bind (u := fun (c : Bool) (_ : L2.St) (H : Hp) (Q : Bool → Hp → Prop) => Q (!c) H) (f := fun t => ep (!t)) back_B a2 fun H0 σ ρ F H z t c Qd Xd Q S ra hm hq hx => by
    cases ra
    exact S.same (R := kB) hm rfl hq
def eIf {α : Type} (mt : E Bool) (ma mb : E α) : E α := eb mt fun t => if t = true then ma else mb
theorem den_if {α β : Type} {tt : TT} {ta tb : L2.St → Hp → (β → Hp → Prop) → Prop} {mt : E Bool} {m1 m2 : E α} {R : Hp → Hp → Hp → β → α → Prop} (hB : Back C R) (ht : Den C W tt mt kB) (h1 : Den C W ta m1 R) (h2 : Den C W tb m2 R) :
    Den C W (fun σ H Q => tt σ H fun c H1 => if c = true then ta σ H1 Q else tb σ H1 Q) (eIf mt m1 m2) R :=
  Den.bind (u := fun (c : Bool) σ H Q => if c = true then ta σ H Q else tb σ H Q) (f := fun t => if t = true then m1 else m2) hB ht fun H0 σ ρ F H z t c Qd Xd Q S ra hm hq hx => by
    have ec : c = t := ra
    rw [ec]
    cases t with
    | true => exact h1 σ ρ F H z Qd Xd Q S hm hq hx
    | false => exact h2 σ ρ F H z Qd Xd Q S hm hq hx
theorem xe_if {mt : E Bool} {m1 m2 : E D} {c : Expr} (hc : XT X C W c mt) (ha : XE X C W a m1) (hb : XE X C W b m2) : XE X C W (.IfExp c a b pos) (eIf mt m1 m2) := by
  obtain ⟨tc, c1, c2⟩ := hc.ex
  obtain ⟨ta, a1, a2⟩ := ha.ex
  obtain ⟨tb, b1, b2⟩ := hb.ex
  exact ⟨_, pe_ifExp c1 a1 b1, den_if back_R c2 a2 b2⟩
theorem xp_if {mt : E Bool} {m1 m2 : E D} {c : Expr} (hc : XT X C W c mt) (ha : XP X C W a m1) (hb : XP X C W b m2) : XP X C W (.IfExp c a b pos) (eIf mt m1 m2) := by
  obtain ⟨tc, c1, c2⟩ := hc.ex
  obtain ⟨ta, a1, a2⟩ := ha.ex
  obtain ⟨tb, b1, b2⟩ := hb.ex
  exact ⟨_, pe_ifExp c1 a1 b1, den_if back_T c2 a2 b2⟩
theorem xo_if {mt : E Bool} {m1 m2 : E (List D)} {c : Expr} (hc : XT X C W c mt) (ha : XO X C W a m1) (hb : XO X C W b m2) : XO X C W (.IfExp c a b pos) (eIf mt m1 m2) := by
  obtain ⟨tc, c1, c2⟩ := hc.ex
  obtain ⟨ta, a1, a2⟩ := ha.ex
  obtain ⟨tb, b1, b2⟩ := hb.ex
  exact ⟨_, pe_ifExp c1 a1 b1, den_if back_O c2 a2 b2⟩
def eAnd (m1 m2 : E Bool) : E Bool := eb m1 fun t => if t = true then m2 else ep false
def eOr (m1 m2 : E Bool) : E Bool := eb m1 fun t => if t = true then ep true else m2
theorem den_and {t u : TT} {m1 m2 : E Bool} (h1 : Den C W t m1 kB) (h2 : Den C W u m2 kB) : Den C W (tAnd t u) (eAnd m1 m2) kB :=
  Den.bind (u := fun (c : Bool) σ H Q => if c = true then u σ H Q else Q false H) (f := fun t => if t = true then m2 else ep false) back_B h1 fun H0 σ ρ F H z t c Qd Xd Q S ra hm hq hx => by
    have ec : c = t := ra
    rw [ec]
    cases t with
    | true => exact h2 σ ρ F H z Qd Xd Q S hm hq hx
    | false => exact S.same (R := kB) hm rfl hq
theorem den_or {t u : TT} {m1 m2 : E Bool} (h1 : Den C W t m1 kB) (h2 : Den C W u m2 kB) : Den C W (tOr t u) (eOr m1 m2) kB :=
  Den.bind (u := fun (c : Bool) σ H Q => if c = true then Q true H else u σ H Q) (f := fun t => if t = true then ep true else m2) back_B h1 fun H0 σ ρ F H z t c Qd Xd Q S ra hm hq hx => by
    have ec : c = t := ra
    rw [ec]
    cases t with
    | false => exact h2 σ ρ F H z Qd Xd Q S hm hq hx
    | true => exact S.same (R := kB) hm rfl hq
section
variable {rest : List Expr} {m1 m2 : E Bool}
theorem xw_and1 (ha : XT X C W a m1) : XW X C W (.BoolOp .And [a] pos) m1 := by
  obtain ⟨ta, a1, a2⟩ := ha.ex
  exact ⟨_, pw_and1 a1, a2⟩
theorem xw_or1 (ha : XT X C W a m1) : XW X C W (.BoolOp .Or [a] pos) m1 := by
  obtain ⟨ta, a1, a2⟩ := ha.ex
  exact ⟨_, pw_or1 a1, a2⟩
theorem xw_and (ha : XT X C W a m1) (hb : XW X C W (.BoolOp .And (b :: rest) pos) m2) : XW X C W (.BoolOp .And (a :: b :: rest) pos) (eAnd m1 m2) := by
  obtain ⟨ta, a1, a2⟩ := ha.ex
  obtain ⟨tb, b1, b2⟩ := hb.ex
  exact ⟨_, pw_and a1 b1, den_and a2 b2⟩
theorem xw_or (ha : XT X C W a m1) (hb : XW X C W (.BoolOp .Or (b :: rest) pos) m2) : XW X C W (.BoolOp .Or (a :: b :: rest) pos) (eOr m1 m2) := by
  obtain ⟨ta, a1, a2⟩ := ha.ex
  obtain ⟨tb, b1, b2⟩ := hb.ex
  exact ⟨_, pw_or a1 b1, den_or a2 b2⟩
theorem XW.t (ha : XW X C W a m1) : XT X C W a m1 := by
  obtain ⟨ta, a1, a2⟩ := ha.ex
  exact ⟨_, a1.pt, a2⟩
end
/-- no computation: such a value is not meant here -/
def eStuck {α : Type} : E α := fun _ _ _ _ => False
/-- and, or as values: bools ahead, the last one any value -/
def fAndV (m2 : E D) : D → E D
  | .bl t => if t = true then m2 else ep (.bl false)
  | _ => eStuck
def fOrV (m2 : E D) : D → E D
  | .bl t => if t = true then ep (.bl true) else m2
  | _ => eStuck
def eAndV (m1 m2 : E D) : E D := eb m1 (fAndV m2)
def eOrV (m1 m2 : E D) : E D := eb m1 (fOrV m2)
theorem den_andV {t u : TE} {m1 m2 : E D} (h1 : Den C W t m1 (kR C)) (h2 : Den C W u m2 (kR C)) : Den C W (tAndV t u) (eAndV m1 m2) (kR C) := by
  refine Den.bind (u := fun (x : V) σ H (Q : VK) => ∃ c, x = .bl c ∧ if c = true then u σ H Q else Q (.bl false) H) (f := fAndV m2) back_R h1 ?_
  intro H0 σ ρ F H z d x Qd Xd Q S ra hm hq hx
  cases d with
  | bl t =>
    cases ra
    refine ⟨t, rfl, ?_⟩
    cases t with
    | true => exact h2 σ ρ F H z Qd Xd Q S hm hq hx
    | false => exact S.same (R := kR C) hm (.bl _) hq
  | _ => exact False.elim hm
theorem den_orV {t u : TE} {m1 m2 : E D} (h1 : Den C W t m1 (kR C)) (h2 : Den C W u m2 (kR C)) : Den C W (tOrV t u) (eOrV m1 m2) (kR C) := by
  refine Den.bind (u := fun (x : V) σ H (Q : VK) => ∃ c, x = .bl c ∧ if c = true then Q (.bl true) H else u σ H Q) (f := fOrV m2) back_R h1 ?_
  intro H0 σ ρ F H z d x Qd Xd Q S ra hm hq hx
  cases d with
  | bl t =>
    cases ra
    refine ⟨t, rfl, ?_⟩
    cases t with
    | false => exact h2 σ ρ F H z Qd Xd Q S hm hq hx
    | true => exact S.same (R := kR C) hm (.bl _) hq
  | _ => exact False.elim hm
section
variable {rest : List Expr} {m1 m2 : E D} {op : BoolOp}
theorem xe_one (ha : XE X C W a m1) : XE X C W (.BoolOp op [a] pos) m1 := by
  obtain ⟨ta, a1, a2⟩ := ha.ex
  exact ⟨_, pe_one a1, a2⟩
theorem xe_and (ha : XE X C W a m1) (hb : XE X C W (.BoolOp .And (b :: rest) pos) m2) : XE X C W (.BoolOp .And (a :: b :: rest) pos) (eAndV m1 m2) := by
  obtain ⟨ta, a1, a2⟩ := ha.ex
  obtain ⟨tb, b1, b2⟩ := hb.ex
  exact ⟨_, pe_and a1 b1, den_andV a2 b2⟩
theorem xe_or (ha : XE X C W a m1) (hb : XE X C W (.BoolOp .Or (b :: rest) pos) m2) : XE X C W (.BoolOp .Or (a :: b :: rest) pos) (eOrV m1 m2) := by
  obtain ⟨ta, a1, a2⟩ := ha.ex
  obtain ⟨tb, b1, b2⟩ := hb.ex
  exact ⟨_, pe_or a1 b1, den_orV a2 b2⟩
end
end
end DL

namespace DL
open PySem PySem.Spec PyProof.Rows L2

/-! ## statements -/
inductive Fl where
  | nx | ret (d : D) | retO (ds : List D) | bk | ct
/-- what is wanted of a statement's end -/
def EndOk (C : CC) (Dn : Ends) (H0 : Hp) (fl : Fl) (ρ : Rho) (z : Int) (F H : Hp) : Prop := match fl with
  | .nx => ∀ σ, StOk C σ ρ F H z → Dn.nx σ H
  | .bk => ∀ σ, StOk C σ ρ F H z → Dn.bk σ H
  | .ct => ∀ σ, StOk C σ ρ F H z → Dn.ct σ H
  | .ret d => ∀ σ v, StOk C σ ρ F H z → C.R F v d → Dn.rt v H
  | .retO ds => ∀ σ v, StOk C σ ρ F H z → (∃ a xs, v = .ref a ∧ H a = some (.lst xs) ∧ F a = none ∧ C.H0 a = none ∧ some a ≠ C.pa ∧ C.RL F xs ds ∧ a ∉ C.hid) → Dn.rt v H
def DenS (C : CC) (W : WX) (t : TS) (s : E Fl) : Prop :=
  ∀ (σ : L2.St) (ρ : Rho) (F H : Hp) (z : Int) (Qd : Fl → Rho → Int → Prop) (Xd : Er → Rho → Int → Prop) (Dn : Ends), StOk C σ ρ F H z → s ρ Qd Xd z →
    (∀ fl ρ' z' F' H', Qd fl ρ' z' → Same F F' → EndOk C Dn H fl ρ' z' F' H') →
    (∀ e ρ' z' cls dd σ' F' H', Xd e ρ' z' → StOk C σ' ρ' F' H' z' → Same F F' → ExR C F' H' e cls dd → W cls dd σ' H') → t Dn σ H
structure XS (X : Cx) (C : CC) (W : WX) (st : Stmt) (s : E Fl) : Prop where
  ex : ∃ t, PS X st t ∧ DenS C W t s
structure XSs (X : Cx) (C : CC) (W : WX) (st : List Stmt) (s : E Fl) : Prop where
  ex : ∃ t, PSs X st t ∧ DenS C W t s

def fSeq (s2 : E Fl) : Fl → E Fl
  | .nx => s2
  | fl => ep fl
def sSeq (s1 s2 : E Fl) : E Fl := eb s1 (fSeq s2)
section
variable {X : Cx} {C : CC} {W : WX} {e a b c : Expr} {es : List Expr} {m ma mb mc : E D} {pos : Pos} {k : Nat} {st : Stmt} {rest body : List Stmt} {s s1 s2 : E Fl}
theorem den_seq {t u : TS} (h1 : DenS C W t s1) (h2 : DenS C W u s2) : DenS C W (tSeq t u) (sSeq s1 s2) := fun σ ρ F H z Qd Xd Dn S hm hq hx => by
  refine h1 σ ρ F H z _ Xd { Dn with nx := u Dn } S hm (fun fl ρ1 z1 F1 H1 q1 ff1 => ?_) hx
  cases fl with
  | nx =>
    intro σ1 S1
    exact h2 σ1 ρ1 F1 H1 z1 Qd Xd Dn S1 q1 (fun fl ρ' z' F' H' q ff => hq fl ρ' z' F' H' q (ff1.trans ff)) fun e ρ' z' cls dd σ' F' H' q S' ff r => hx e ρ' z' cls dd σ' F' H' q S' (ff1.trans ff) r
  | ret d => exact hq _ _ _ _ _ q1 ff1
  | retO d => exact hq _ _ _ _ _ q1 ff1
  | bk => exact hq _ _ _ _ _ q1 ff1
  | ct => exact hq _ _ _ _ _ q1 ff1
theorem xss_nil : XSs X C W [] (ep .nx) := ⟨tNext, pss_nil, fun σ ρ F H z Qd Xd Dn S hm hq hx => hq _ _ _ _ _ hm (Same.refl F) σ S⟩
theorem xss_one (h : XS X C W st s) : XSs X C W [st] s := by
  obtain ⟨t, h1, h2⟩ := h.ex
  exact ⟨t, pss_one h1, h2⟩
theorem xss_cons (h : XS X C W st s1) (hs : XSs X C W rest s2) : XSs X C W (st :: rest) (sSeq s1 s2) := by
  obtain ⟨t, h1, h2⟩ := h.ex
  obtain ⟨u, g1, g2⟩ := hs.ex
  exact ⟨_, pss_cons h1 g1, den_seq h2 g2⟩
theorem xs_pass : XS X C W (.Pass pos) (ep .nx) := ⟨tNext, ps_pass, fun σ ρ F H z Qd Xd Dn S hm hq hx => hq _ _ _ _ _ hm (Same.refl F) σ S⟩
theorem xs_break : XS X C W (.Break pos) (ep .bk) := ⟨tBreak, ps_break, fun σ ρ F H z Qd Xd Dn S hm hq hx => hq _ _ _ _ _ hm (Same.refl F) σ S⟩
theorem xs_continue : XS X C W (.Continue pos) (ep .ct) := ⟨tCont, ps_continue, fun σ ρ F H z Qd Xd Dn S hm hq hx => hq _ _ _ _ _ hm (Same.refl F) σ S⟩
theorem xs_doc {x j pos'} : XS X C W (.Expr (.Constant (.str x) j pos) pos') (ep .nx) := ⟨tNext, ps_doc, fun σ ρ F H z Qd Xd Dn S hm hq hx => hq _ _ _ _ _ hm (Same.refl F) σ S⟩
def sIf (mt : E Bool) (s1 s2 : E Fl) : E Fl := eb mt fun t => if t = true then s1 else s2
theorem xs_if {mt : E Bool} {l1 l2 : List Stmt} {c : Expr} (hc : XT X C W c mt) (h1 : XSs X C W l1 s1) (h2 : XSs X C W l2 s2) : XS X C W (.If c l1 l2 pos) (sIf mt s1 s2) := by
  obtain ⟨tc, c1, c2⟩ := hc.ex
  obtain ⟨t, g1, g2⟩ := h1.ex
  obtain ⟨u, k1, k2⟩ := h2.ex
  refine ⟨_, ps_if c1 g1 k1, fun σ ρ F H z Qd Xd Dn S hm hq hx => ?_⟩
  refine c2 σ ρ F H z _ Xd (fun b H1 => if b = true then t Dn σ H1 else u Dn σ H1) S hm (fun bb ρ1 z1 b F1 H1 q1 S1 ff1 k1 o1 r1 => ?_) (fun e ρ' z' cls dd F' H' q S' ff r => hx e ρ' z' cls dd σ F' H' q S' ff r)
  have eb' : b = bb := r1
  rw [eb']
  cases bb with
  | true => exact g2 σ ρ1 F1 H1 z1 Qd Xd Dn S1 q1 (fun fl ρ' z' F' H' q ff => hq fl ρ' z' F' H' q (ff1.trans ff)) fun e ρ' z' cls dd σ' F' H' q S' ff r => hx e ρ' z' cls dd σ' F' H' q S' (ff1.trans ff) r
  | false => exact k2 σ ρ1 F1 H1 z1 Qd Xd Dn S1 q1 (fun fl ρ' z' F' H' q ff => hq fl ρ' z' F' H' q (ff1.trans ff)) fun e ρ' z' cls dd σ' F' H' q S' ff r => hx e ρ' z' cls dd σ' F' H' q S' (ff1.trans ff) r
def sRet (m : E D) : E Fl := eb m fun d => ep (.ret d)
def sRetO (m : E (List D)) : E Fl := eb m fun d => ep (.retO d)
theorem xs_ret (h : XE X C W e m) : XS X C W (.Return (some e) pos) (sRet m) := by
  obtain ⟨t, h1, h2⟩ := h.ex
  refine ⟨_, ps_ret h1, fun σ ρ F H z Qd Xd Dn S hm hq hx => ?_⟩
  exact h2 σ ρ F H z _ Xd Dn.rt S hm (fun d ρ1 z1 v F1 H1 q1 S1 ff1 k1 o1 r1 => hq _ _ _ _ _ q1 ff1 σ v S1 r1) (fun e ρ' z' cls dd F' H' q S' ff r => hx e ρ' z' cls dd σ F' H' q S' ff r)
theorem xs_retO {m : E (List D)} (h : XO X C W e m) : XS X C W (.Return (some e) pos) (sRetO m) := by
  obtain ⟨t, h1, h2⟩ := h.ex
  refine ⟨_, ps_ret h1, fun σ ρ F H z Qd Xd Dn S hm hq hx => ?_⟩
  exact h2 σ ρ F H z _ Xd Dn.rt S hm (fun d ρ1 z1 v F1 H1 q1 S1 ff1 k1 o1 ⟨p, xs, e1, e2, e3, e4, e5, e6⟩ => hq _ _ _ _ _ q1 ff1 σ v S1 ⟨p, xs, e1, e2, e3, S.h0None e4 e5, e5, e6, S.notHid e4⟩) (fun e ρ' z' cls dd F' H' q S' ff r => hx e ρ' z' cls dd σ F' H' q S' ff r)
/-- return of a name that owns its list -/
def sRetV (i : Nat) : E Fl := fun ρ Q _ z => match ρ[i]? with
  | some (.own ds) => Q (.retO ds) ρ z
  | _ => False
theorem xs_retV (i : Nat) {x : Str} {p : Pos} (h : PE X (.Name x p) (tVar i)) : XS X C W (.Return (some (.Name x p)) pos) (sRetV i) := by
  refine ⟨_, ps_ret h, fun σ ρ F H z Qd Xd Dn S hm hq hx => ?_⟩
  unfold sRetV at hm
  cases e : ρ[i]? with
  | none => rw [e] at hm; exact hm.elim
  | some s =>
    rw [e] at hm
    obtain ⟨v, e1, r⟩ := st_get S e
    cases s with
    | no => exact hm.elim
    | fr d => exact hm.elim
    | own ds =>
      cases v with
      | none => exact r.elim
      | some v => exact ⟨v, e1, hq _ _ _ _ _ hm (Same.refl F) σ v S r⟩
theorem xs_retN : XS X C W (.Return none pos) (ep (.ret .non)) := ⟨_, ps_retN, fun σ ρ F H z Qd Xd Dn S hm hq hx => hq _ _ _ _ _ hm (Same.refl F) σ _ S .non⟩
def sExpr (m : E D) : E Fl := eb m fun _ => ep .nx
theorem xs_expr (h : XP X C W e m) (hs : swapsWith e none pos.line X.env = pure false := by rfl) : XS X C W (.Expr e pos) (sExpr m) := by
  obtain ⟨t, h1, h2⟩ := h.ex
  refine ⟨_, ps_expr h1 hs, fun σ ρ F H z Qd Xd Dn S hm hq hx => ?_⟩
  exact h2 σ ρ F H z _ Xd (fun _ H1 => Dn.nx σ H1) S hm (fun d ρ1 z1 v F1 H1 q1 S1 ff1 k1 o1 r1 => hq _ _ _ _ _ q1 ff1 σ S1) (fun e ρ' z' cls dd F' H' q S' ff r => hx e ρ' z' cls dd σ F' H' q S' ff r)

/-! ### stores into names -/
theorem get_set {α : Type} {l : List α} {i j : Nat} {x y : α} (h : (l.set i x)[j]? = some y) : (j = i ∧ y = x ∧ i < l.length) ∨ (j ≠ i ∧ l[j]? = some y) := by
  by_cases hj : j = i
  · subst hj
    by_cases hl : j < l.length
    · rw [List.getElem?_set_self hl] at h
      exact .inl ⟨rfl, (Option.some.inj h).symm, hl⟩
    · rw [List.getElem?_eq_none (by rw [List.length_set]; omega)] at h; cases h
  · rw [List.getElem?_set_ne (Ne.symm hj)] at h
    exact .inr ⟨hj, h⟩
theorem StOk.setF {σ : L2.St} {ρ : Rho} {F H : Hp} {z : Int} (S : StOk C σ ρ F H z) (i : Nat) {v : V} {d : D} (r : C.R F v d) : StOk C (σ.set i (some v)) (ρ.set i (.fr d)) F H z := by
  refine ⟨S.sub, S.f0, S.h0, S.nw, by rw [List.length_set, List.length_set]; exact S.len, fun j w s e1 e2 => ?_, fun j l x y b e1 e2 e3 e4 => ?_, S.pz, S.hd⟩
  · rcases get_set e1 with ⟨h1, h2, _⟩ | ⟨h1, h2⟩
    · rcases get_set e2 with ⟨g1, g2, _⟩ | ⟨g1, g2⟩
      · subst h2 g2; exact r
      · exact absurd h1 g1
    · rcases get_set e2 with ⟨g1, g2, _⟩ | ⟨g1, g2⟩
      · exact absurd g1 h1
      · exact S.env j w s h2 g2
  · rcases get_set e1 with ⟨_, h2, _⟩ | ⟨h1, h2⟩
    · cases h2
    · rcases get_set e2 with ⟨_, g2, _⟩ | ⟨g1, g2⟩
      · cases g2
      · rcases get_set e3 with ⟨k1, _⟩ | ⟨_, k2⟩
        · exact absurd k1 h1
        · rcases get_set e4 with ⟨k1, _⟩ | ⟨_, k3⟩
          · exact absurd k1 g1
          · exact S.apart j l x y b h2 g2 k2 k3
theorem StOk.setO {σ : L2.St} {ρ : Rho} {F H : Hp} {z : Int} (S : StOk C σ ρ F H z) (i : Nat) {a : Addr} {xs : List V} {ds : List D} (ha : H a = some (.lst xs)) (hf : F a = none) (h0 : C.H0 a = none) (np : some a ≠ C.pa) (r : C.RL F xs ds)
    (no : ∀ (j : Nat) ys, ρ[j]? = some (.own ys) → σ[j]? ≠ some (some (.ref a))) (nh : a ∉ C.hid) : StOk C (σ.set i (some (.ref a))) (ρ.set i (.own ds)) F H z := by
  refine ⟨S.sub, S.f0, S.h0, S.nw, by rw [List.length_set, List.length_set]; exact S.len, fun j w s e1 e2 => ?_, fun j l x y b e1 e2 e3 e4 => ?_, S.pz, S.hd⟩
  · rcases get_set e1 with ⟨h1, h2, _⟩ | ⟨h1, h2⟩
    · rcases get_set e2 with ⟨g1, g2, _⟩ | ⟨g1, g2⟩
      · subst h2 g2; exact ⟨a, xs, rfl, ha, hf, h0, np, r, nh⟩
      · exact absurd h1 g1
    · rcases get_set e2 with ⟨g1, g2, _⟩ | ⟨g1, g2⟩
      · exact absurd g1 h1
      · exact S.env j w s h2 g2
  · rcases get_set e1 with ⟨h1, h2, _⟩ | ⟨h1, h2⟩
    · rcases get_set e2 with ⟨g1, g2, _⟩ | ⟨g1, g2⟩
      · rw [h1, g1]
      · rcases get_set e3 with ⟨_, k2, _⟩ | ⟨k1, _⟩
        · rcases get_set e4 with ⟨k3, _⟩ | ⟨_, k4⟩
          · exact absurd k3 g1
          · cases k2
            exact absurd k4 (no l y g2)
        · exact absurd h1 k1
    · rcases get_set e2 with ⟨g1, g2, _⟩ | ⟨g1, g2⟩
      · rcases get_set e4 with ⟨_, k2, _⟩ | ⟨k1, _⟩
        · rcases get_set e3 with ⟨k3, _⟩ | ⟨_, k4⟩
          · exact absurd k3 h1
          · cases k2
            exact absurd k4 (no j x h2)
        · exact absurd g1 k1
      · rcases get_set e3 with ⟨k1, _⟩ | ⟨_, k2⟩
        · exact absurd k1 h1
        · rcases get_set e4 with ⟨k1, _⟩ | ⟨_, k3⟩
          · exact absurd k1 g1
          · exact S.apart j l x y b h2 g2 k2 k3
/-- a target: what storing a value makes of the slots -/
abbrev Tg := D → Rho → (Rho → Prop) → Prop
/-- the target's reading g does what tg says; it stores at none but the slots is -/
def DenG (C : CC) (g : TG) (is : List Nat) (tg : Tg) : Prop := ∀ (σ : L2.St) (ρ : Rho) (F H : Hp) (z : Int) (v : V) (d : D) (Qd : Rho → Prop) (Q : L2.St → Hp → Prop), StOk C σ ρ F H z → C.R F v d → tg d ρ Qd →
  (∀ σ' ρ', Qd ρ' → StOk C σ' ρ' F H z → (∀ j, j ∉ is → σ'[j]? = σ[j]?) ∧ σ'.length = σ.length → Ole ρ' ρ → Q σ' H) → g v σ H Q
structure XG (X : Cx) (C : CC) (t : Expr) (is : List Nat) (tg : Tg) : Prop where
  ex : ∃ g, PG X t g ∧ DenG C g is tg
abbrev Tgs := List D → Rho → (Rho → Prop) → Prop
def DenGs (C : CC) (g : TGs) (is : List Nat) (tg : Tgs) : Prop := ∀ (σ : L2.St) (ρ : Rho) (F H : Hp) (z : Int) (vs : List V) (ds : List D) (Qd : Rho → Prop) (Q : L2.St → Hp → Prop), StOk C σ ρ F H z → C.RL F vs ds → tg ds ρ Qd →
  (∀ σ' ρ', Qd ρ' → StOk C σ' ρ' F H z → (∀ j, j ∉ is → σ'[j]? = σ[j]?) ∧ σ'.length = σ.length → Ole ρ' ρ → Q σ' H) → g vs σ H Q
structure XGs (X : Cx) (C : CC) (ts : List Expr) (is : List Nat) (tg : Tgs) : Prop where
  ex : ∃ g, PGs X ts g ∧ DenGs C g is tg
def gN (i : Nat) : Tg := fun d ρ Q => Q (ρ.set i (.fr d))
def gNl : Tgs := fun ds ρ Q => ds = [] ∧ Q ρ
def gCn (t : Tg) (u : Tgs) : Tgs := fun ds ρ Q => match ds with
  | d :: r => t d ρ fun ρ' => u r ρ' Q
  | [] => False
def gTp (n : Nat) (u : Tgs) : Tg := fun d ρ Q => match d with
  | .tup ds => ds.length = n ∧ u ds ρ Q
  | .lst ds => ds.length = n ∧ u ds ρ Q
  | _ => False
/-- (a, b, ..) = a tuple or a list of that length -/
def gSq (K : PySem.W.Frag) (n : Nat) (t : TGs) : TG := fun v σ H Q => ∃ a xs, v = .ref a ∧ (SqT K H a xs ∨ SqL K H a xs) ∧ xs.length = n ∧ t xs σ H Q
theorem pg_sq {es : List Expr} {k : Nat} {t : TGs} {n : Nat} (hc : X.calm = true) (h : PGs X es t)
    (hn : (assignEach es X.env).length = n := by rfl) (hst : (assignEach es X.env).findIdx? (·.1) = none := by rfl) : PG X (.Tuple es k pos) (gSq X.K n t) := by
  refine ⟨fun pins s σ H v u Q I r hw => ?_⟩
  obtain ⟨a, xs, e1, hq, hl, hw⟩ := hw
  rcases hq with hq | hq
  · exact (pg_tup hc h hn hst).run pins s σ H v u Q I r ⟨a, xs, e1, hq, hl, hw⟩
  subst e1
  cases r
  obtain ⟨its, rv, ⟨o, m, e, c, _, d⟩, hz⟩ := I.list hq
  have ht : s.heap.IsList a its.toArray := ⟨o, e, c, m, d⟩
  rw [assign_Tuple]
  refine wpAny_bind (wpAny_standAt ?_)
  unfold unpack
  rw [show (assignEach es X.env).length = its.toArray.size by simp [hn, ← hl, rv.length], hst]
  refine wpAny_bind (wpAny_holding (PySem.W.kun_itemsOf (I.ok.hd hc) ht fun h' hx => ?_))
  have I1 : Inv X pins σ H { s with heap := h' } := I.kept (t' := s.toks) fun b o e => hx b o (Nat.ne_of_lt (Heap.lt_size e)) e
  exact h.run pins _ σ H xs _ Q I1 (by simpa using rv) hw
theorem den_gN (i : Nat) : DenG C (gName i) [i] (gN i) := fun σ ρ F H z v d Qd Q S r hm hq => hq _ _ hm (S.setF i r) ⟨fun j hj => List.getElem?_set_ne (fun e => hj (by rw [e]; exact List.mem_cons_self)), List.length_set⟩ ole_set
theorem xg_name (i : Nat) {x : Str} (h : PG X (.Name x pos) (gName i)) : XG X C (.Name x pos) [i] (gN i) := ⟨_, h, den_gN i⟩
theorem xgs_nil : XGs X C [] [] gNl := ⟨_, pgs_nil, fun σ ρ F H z vs ds Qd Q S r hm hq => by
  obtain ⟨e, hm⟩ := hm
  subst e
  cases r
  exact ⟨rfl, hq _ _ hm S ⟨fun j _ => rfl, rfl⟩ Ole.refl⟩⟩
theorem xgs_cons {t : Expr} {ts : List Expr} {i1 i2 : List Nat} {g : Tg} {gs : Tgs} (h : XG X C t i1 g) (hs : XGs X C ts i2 gs) (hp : (assignEach (t :: ts) X.env).map (·.2) = assign t X.env :: (assignEach ts X.env).map (·.2) := by rfl) : XGs X C (t :: ts) (i1 ++ i2) (gCn g gs) := by
  obtain ⟨g1, h1, h2⟩ := h.ex
  obtain ⟨g2, k1, k2⟩ := hs.ex
  refine ⟨_, pgs_cons h1 k1 hp, fun σ ρ F H z vs ds Qd Q S r hm hq => ?_⟩
  cases r with
  | nil => exact hm.elim
  | cons a b => exact ⟨_, _, rfl, h2 σ ρ F H z _ _ _ _ S a hm fun σ1 ρ1 q1 S1 u1 o1 => k2 σ1 ρ1 F H z _ _ Qd Q S1 b q1 fun σ' ρ' q' S' u2 o2 =>
      hq σ' ρ' q' S' ⟨fun j hj => (u2.1 j fun m => hj (List.mem_append_right _ m)).trans (u1.1 j fun m => hj (List.mem_append_left _ m)), u2.2.trans u1.2⟩ (o2.trans o1)⟩
theorem xg_tup {ts : List Expr} {gs : Tgs} {is : List Nat} {kk n : Nat} (hk : X.K = C.K) (hc : X.calm = true) (hs : XGs X C ts is gs) (hn : (assignEach ts X.env).length = n := by rfl) (hst : (assignEach ts X.env).findIdx? (·.1) = none := by rfl) : XG X C (.Tuple ts kk pos) is (gTp n gs) := by
  obtain ⟨g2, k1, k2⟩ := hs.ex
  refine ⟨_, pg_sq hc k1 hn hst, fun σ ρ F H z v d Qd Q S r hm hq => ?_⟩
  cases d with
  | tup ds =>
    cases r with
    | tup q rr =>
      refine ⟨_, _, rfl, .inl ?_, by rw [RpL.length rr]; exact hm.1, k2 σ ρ F H z _ _ Qd Q S rr hm.2 hq⟩
      rw [hk]
      exact sqtSame S.sub q
  | lst ds =>
    cases r with
    | lst nn q rr =>
      exact ⟨_, _, rfl, .inr (.inl (.inl (S.sub _ _ q))), by rw [RpL.length rr]; exact hm.1, k2 σ ρ F H z _ _ Qd Q S rr hm.2 hq⟩
  | _ => exact False.elim hm
/-- target = e -/
def sAsg (m : E D) (tg : Tg) : E Fl := eb m fun d ρ Q _ z => tg d ρ fun ρ' => Q .nx ρ' z
theorem den_asg {t : TE} {g : TG} {tg : Tg} {is : List Nat} (h : Den C W t m (kR C)) (hg : DenG C g is tg) : DenS C W (tAsg t g) (sAsg m tg) := fun σ ρ F H z Qd Xd Dn S hm hq hx =>
  h σ ρ F H z _ Xd (fun x H1 => g x σ H1 Dn.nx) S hm (fun d ρ1 z1 v F1 H1 q1 S1 ff1 k1 o1 r1 => hg σ ρ1 F1 H1 z1 v d _ Dn.nx S1 r1 q1 fun σ' ρ' q' S' _ _ => hq _ _ _ _ _ q' ff1 σ' S') (fun e ρ' z' cls dd F' H' q S' ff r => hx e ρ' z' cls dd σ F' H' q S' ff r)
theorem xs_asg {tgt : Expr} {tg : Tg} {is : List Nat} (h : XE X C W e m) (hg : XG X C tgt is tg) (hs : swapsWithSole [tgt] e pos.line X.env = pure false := by rfl) (hw : swappedStores [tgt] e X.env = pure none := by rfl)
    (h1 : (assignEach [tgt] X.env).map (·.2) = [assign tgt X.env] := by rfl) : XS X C W (.Assign [tgt] e pos) (sAsg m tg) := by
  obtain ⟨t, a1, a2⟩ := h.ex
  obtain ⟨g, g1, g2⟩ := hg.ex
  exact ⟨_, ps_asg a1 g1 hs hw h1, den_asg a2 g2⟩
theorem xs_set (i : Nat) {x : Str} {pos' : Pos} (h : XE X C W e m) (hN : X.N.Nodup) (hi : X.N[i]? = some x) (hx : Loc X.env.scope x) (hs : swapsWith e (some (.Name x pos')) pos.line X.env = pure false := by rfl)
    (hf : X.fn x = true ∨ X.env.scope.names.lookup x = some .local := by first | exact .inl rfl | exact .inr rfl | assumption) : XS X C W (.Assign [.Name x pos'] e pos) (sAsg m (gN i)) := by
  obtain ⟨t, a1, a2⟩ := h.ex
  exact ⟨_, ps_set hN hi hx a1 hs hf, den_asg (g := gName i) a2 (den_gN i)⟩
/-- name = a new list that the name owns -/
def sAsgO (m : E (List D)) (i : Nat) : E Fl := eb m fun ds ρ Q _ z => Q .nx (ρ.set i (.own ds)) z
theorem xs_setO (i : Nat) {x : Str} {pos' : Pos} {m : E (List D)} (h : XO X C W e m) (hN : X.N.Nodup) (hi : X.N[i]? = some x) (hx : Loc X.env.scope x) (hs : swapsWith e (some (.Name x pos')) pos.line X.env = pure false := by rfl)
    (hf : X.fn x = true ∨ X.env.scope.names.lookup x = some .local := by first | exact .inl rfl | exact .inr rfl | assumption) : XS X C W (.Assign [.Name x pos'] e pos) (sAsgO m i) := by
  obtain ⟨t, a1, a2⟩ := h.ex
  refine ⟨_, ps_set hN hi hx a1 hs hf, fun σ ρ F H z Qd Xd Dn S hm hq hx => ?_⟩
  refine a2 σ ρ F H z _ Xd (fun x H1 => gName i x σ H1 Dn.nx) S hm (fun d ρ1 z1 v F1 H1 q1 S1 ff1 k1 o1 ⟨p, xs, e1, e2, e3, e4, e5, e6⟩ => ?_) (fun e ρ' z' cls dd F' H' q S' ff r => hx e ρ' z' cls dd σ F' H' q S' ff r)
  subst e1
  exact hq _ _ _ _ _ q1 ff1 _ (S1.setO i e2 e3 (S.h0None e4 e5) e5 e6 (S.notOwn e4 o1) (S.notHid e4))
/-- a, b = x, y -/
def sPar (i j : Nat) (ms : E (List D)) : E Fl := eb ms fun ds ρ Q _ z => match ds with
  | [d1, d2] => Q .nx ((ρ.set i (.fr d1)).set j (.fr d2)) z
  | _ => False
theorem xs_par (i j : Nat) {x y : Str} {px py pt : Pos} {kt k2 pt2} {ms : E (List D)} (hc : X.calm = true) (hN : X.N.Nodup) (hi : X.N[i]? = some x) (hj : X.N[j]? = some y) (hij : i ≠ j)
    (hx : X.env.scope.names.lookup x = some .local) (hy : X.env.scope.names.lookup y = some .local) (ha : XA X C W [a, b] ms)
    (hw : swappedStores [.Tuple [.Name x px, .Name y py] kt pt] (.Tuple [a, b] k2 pt2) X.env = pure (some [x, y]))
    (hs : swapsWithSole [.Tuple [.Name x px, .Name y py] kt pt] (.Tuple [a, b] k2 pt2) pos.line X.env = pure false := by rfl) :
    XS X C W (.Assign [.Tuple [.Name x px, .Name y py] kt pt] (.Tuple [a, b] k2 pt2) pos) (sPar i j ms) := by
  obtain ⟨t, a1, a2⟩ := ha.ex
  refine ⟨_, ps_par hc hN hi hj hij hx hy a1 hw hs, fun σ ρ F H z Qd Xd Dn S hm hq hx => ?_⟩
  refine a2 σ ρ F H z _ Xd (fun vs H1 => ∃ v w, vs = [v, w] ∧ Dn.nx ((σ.set i (some v)).set j (some w)) H1) S hm (fun ds ρ1 z1 vs F1 H1 q1 S1 ff1 k1 o1 r1 => ?_) (fun e ρ' z' cls dd F' H' q S' ff r => hx e ρ' z' cls dd σ F' H' q S' ff r)
  cases r1 with
  | nil => exact False.elim q1
  | cons r1 rr =>
    cases rr with
    | nil => exact False.elim q1
    | cons r2 rr =>
      cases rr with
      | nil => exact ⟨_, _, rfl, hq _ _ _ _ _ q1 ff1 _ ((S1.setF i r1).setF j r2)⟩
      | cons _ _ => exact False.elim q1
end
end DL

namespace DL
open PySem PySem.Spec PyProof.Rows L2

/-! ## defs: as the layer's FnOk, where no repr is under way -/
structure FnG (P : Program) (w : World) (K : PySem.W.Frag) (mg : Str → Option Value) (base : Heap) (k : Nat) (f : Addr) (fd : FuncData) (ps : List Str) (sp : Sp) : Prop where
  len : ∀ vs H Q E, sp vs H Q E → vs.length = ps.length
  run : ∀ (A : Around) (outer : List PySem.Env) (s : Shared) (H : Hp) (args : Args) (us : List Value) (vs : List V) (Q : VK) (E : XK), A.guards = some [] → Room k A → Env0 P w K mg base A outer s H →
    BindsTo s fd args (ps.zip us) → Vals vs us → sp vs H Q E → codeAny (model P w) A (.call (.ref f) args) (CR (L2.CX P w) outer P w H s Q E) s
section
variable {P : Program} {w : World} {K : PySem.W.Frag} {mg : Str → Option Value} {base : Heap}
theorem FnG.mono {j k : Nat} {f : Addr} {fd : FuncData} {ps : List Str} {sp : Sp} (F : FnG P w K mg base j f fd ps sp) (h : j ≤ k) : FnG P w K mg base k f fd ps sp :=
  ⟨F.len, fun A outer s H args us vs Q E hg hr => F.run A outer s H args us vs Q E hg (hr.mono h)⟩
/-- the rule for a def, by its body's reading -/
theorem fnG_of {k : Nat} {f : Addr} {x qual : Str} {params : Arguments} {body : List Stmt} {scope : Scope} {dvs : List V} {kws : List (Str × V)} {fd : FuncData} {N ps : List Str} {sp : Sp}
    (F : FunD K x qual params body scope dvs kws f fd) (S : FnScope N ps scope) (len : ∀ vs H Q E, sp vs H Q E → vs.length = ps.length)
    (hbody : ∀ (cdv : Value) (A : Around) (outer : List PySem.Env) (s : Shared) (H : Hp) (vs : List V) (Q : VK) (E : XK), A.guards = some [] → Room k (A.deeper (envOfC qual scope s.heap.objs.size f cdv)) → sp vs H Q E →
      ∃ t, PSs (cxOf (L2.CX P w) P w K mg base N qual scope f cdv A outer s H E) body t ∧ t { nx := fun _ H' => Q .non H', rt := Q } (L2.start N vs) H) : FnG P w K mg base (k + 1) f fd ps sp := by
  obtain ⟨oc, od, dV, kV, doc, pm, an, cdv, ct, osl, rfl, lk, hcd, _, _⟩ := F.ex
  refine ⟨len, ?_⟩
  intro A outer s H args us vs Q E hg hr e0 hb r hsp
  have hl := len _ _ _ _ hsp
  have KX : K.In s.heap := e0.mod.kin.keeps fun b o q => (e0.bs b o q).1
  have lim : s.heap.NoLimit := e0.mod.nolimit.keeps fun b o q => (e0.bs b o q).1
  refine codeAny_call_function hr.depth (KX _ _ lk) rfl S.co S.gen rfl (PySem.W.codeRec_of KX hcd) (hb _ _ _ _ ?_)
  refine wpAny_newFunctionEnv_cells S.kind (fun y hy => ?_) fun env he s1 x => ?_
  · rcases S.par y.1 (List.of_mem_zip hy).1 with q | q
    · exact Or.inl q
    · exact Or.inr ⟨q, PySem.W.cellsFrom_some _ _ _ (Or.inl q)⟩
  · subst he
    refine ⟨lim.keeps x.toInCall.keep, codeAny_func ?_⟩
    obtain ⟨t, ht, hq⟩ := hbody cdv A outer s H vs Q E hg (hr.deeper _) hsp
    refine wpAny_mono (ht.run [] s1 (L2.start N vs) H _ (inv_start S hr.hd e0 hl r x) hq) ?_ (fun e s' hs => hs)
    intro fl s' hs
    cases fl with
    | ret u =>
      obtain ⟨v, σ', H', J, rv, q⟩ := hs
      exact ⟨v, H', J.os, J.bare, J.base, J.hok, rv, q⟩
    | next =>
      obtain ⟨σ', H', J, q⟩ := hs
      exact ⟨V.non, H', J.os, J.bare, J.base, J.hok, rfl, q⟩
    | brk =>
      obtain ⟨_, _, _, q⟩ := hs
      exact q.elim
    | cont =>
      obtain ⟨_, _, _, q⟩ := hs
      exact q.elim
end

/-- how the heap lies behind a call -/
def Aft (pa : Option Addr) (F H F' H' : Hp) (z' : Int) : Prop := Same F F' ∧ Same F' H' ∧ Keep pa H H' ∧ (∀ b, F' b ≠ none → F b = none → H b = none) ∧ PzOk pa F' H' z'
/-- what a def on data promises: its answer frozen; a new list of the caller's own -/
def spF (K : PySem.W.Frag) (mg : Str → Option Value) (n : Nat) (m : List D → E0 D) : Sp := fun vs H Q E => vs.length = n ∧ ∃ (pa : Option Addr) (F : Hp) (z : Int) (ds : List D) (Qd : D → Int → Prop) (Xd : Er → Int → Prop),
  Same F H ∧ PzOk pa F H z ∧ RpL K mg pa F vs ds ∧ m ds Qd Xd z ∧ (∀ d z' v F' H', Qd d z' → Aft pa F H F' H' z' → Rp K mg pa F' v d → Q v H') ∧
  (∀ e z' cls dd F' H', Xd e z' → Aft pa F H F' H' z' → ExR ⟨K, mg, pa, F, H, []⟩ F' H' e cls dd → E cls dd H')
def spO (K : PySem.W.Frag) (mg : Str → Option Value) (n : Nat) (m : List D → E0 (List D)) : Sp := fun vs H Q E => vs.length = n ∧ ∃ (pa : Option Addr) (F : Hp) (z : Int) (ds : List D) (Qd : List D → Int → Prop) (Xd : Er → Int → Prop),
  Same F H ∧ PzOk pa F H z ∧ RpL K mg pa F vs ds ∧ m ds Qd Xd z ∧ (∀ ds z' a xs F' H', Qd ds z' → Aft pa F H F' H' z' → H' a = some (.lst xs) → F' a = none → H a = none → some a ≠ pa → RpL K mg pa F' xs ds → Q (.ref a) H') ∧
  (∀ e z' cls dd F' H', Xd e z' → Aft pa F H F' H' z' → ExR ⟨K, mg, pa, F, H, []⟩ F' H' e cls dd → E cls dd H')
/-- the slots at a def's entry -/
def rho0 (n : Nat) (ds : List D) : Rho := ds.map Sl.fr ++ List.replicate (n - ds.length) Sl.no
def outF (Q : D → Int → Prop) : Fl → Rho → Int → Prop
  | .nx, _, z => Q .non z
  | .ret d, _, z => Q d z
  | .retO ds, _, z => Q (.lst ds) z
  | _, _, _ => False
def outO (Q : List D → Int → Prop) : Fl → Rho → Int → Prop
  | .retO ds, _, z => Q ds z
  | _, _, _ => False
/-- a def's computation by its body's -/
def dF (n : Nat) (s : E Fl) : List D → E0 D := fun ds Q X z => s (rho0 n ds) (outF Q) (fun e _ z => X e z) z
def dO (n : Nat) (s : E Fl) : List D → E0 (List D) := fun ds Q X z => s (rho0 n ds) (outO Q) (fun e _ z => X e z) z

section
variable {P : Program} {w : World} {K : PySem.W.Frag} {mg : Str → Option Value} {base : Heap}
/-- the context of a def's body -/
abbrev cxG (P : Program) (w : World) (K : PySem.W.Frag) (mg : Str → Option Value) (base : Heap) (N : List Str) (qual : Str) (scope : Scope) (f : Addr) (cdv : Value) (A : Around) (outer : List PySem.Env) (s : Shared) (H : Hp) (E : XK) : Cx :=
  cxOf (L2.CX P w) P w K mg base N qual scope f cdv A outer s H E
abbrev wE (E : XK) : WX := fun cls d _ H => E cls d H
theorem start_ok {N : List Str} {vs : List V} {ds : List D} {pa : Option Addr} {F H : Hp} {z : Int} (sub : Same F H) (pz : PzOk pa F H z) (r : RpL K mg pa F vs ds) (hn : vs.length ≤ N.length) :
    StOk ⟨K, mg, pa, F, H, []⟩ (L2.start N vs) (rho0 N.length ds) F H z := by
  have hl := RpL.length r
  refine ⟨sub, Same.refl F, Keep.refl, fun b h1 h2 => absurd h2 h1, ?_, fun i v s e1 e2 => ?_, fun i j x y a e1 _ _ _ => ?_, pz, fun b hb => by cases hb⟩
  · unfold L2.start rho0
    simp only [List.length_append, List.length_map, List.length_replicate]
    omega
  · unfold L2.start at e1
    unfold rho0 at e2
    by_cases hi : i < vs.length
    · rw [List.getElem?_append_left (by simpa using hi), List.getElem?_map] at e1
      rw [List.getElem?_append_left (by simpa using (show i < ds.length by omega)), List.getElem?_map] at e2
      cases q : vs[i]? with
      | none => rw [q] at e1; cases e1
      | some u =>
        rw [q] at e1
        cases e1
        obtain ⟨d, qd, rd⟩ := RpL.getV r q
        rw [qd] at e2
        cases e2
        exact rd
    · rw [List.getElem?_append_right (by simp; omega), List.getElem?_replicate] at e2
      split at e2
      · cases e2
        cases v <;> trivial
      · cases e2
  · unfold rho0 at e1
    by_cases hi : i < ds.length
    · rw [List.getElem?_append_left (by simpa using hi), List.getElem?_map] at e1
      cases q : ds[i]? with
      | none => rw [q] at e1; cases e1
      | some u => rw [q] at e1; cases e1
    · rw [List.getElem?_append_right (by simp; omega), List.getElem?_replicate] at e1
      split at e1
      · cases e1
      · cases e1
theorem StOk.aft {pa : Option Addr} {F H F' H' : Hp} {σ : L2.St} {ρ : Rho} {z : Int} (S : StOk ⟨K, mg, pa, F, H, []⟩ σ ρ F' H' z) : Aft pa F H F' H' z := ⟨S.f0, S.sub, S.h0, S.nw, S.pz⟩
/-- behind a def its own list is frozen: whatever the slots say of it is forgotten -/
theorem StOk.frzAny {pa : Option Addr} {F H F' H' : Hp} {σ : L2.St} {ρ : Rho} {z : Int} (S : StOk ⟨K, mg, pa, F, H, []⟩ σ ρ F' H' z) {a : Addr} {xs : List V} (e2 : H' a = some (.lst xs)) (e3 : F' a = none) (e4 : H a = none) (e5 : some a ≠ pa) :
    Aft pa F H (upd F' a (.lst xs)) H' z := by
  refine ⟨S.f0.trans (Same.new e3), fun b u e => ?_, S.h0, fun b h1 h2 => ?_, fun q e => ?_⟩
  · by_cases q : b = a
    · subst q; rw [upd_same] at e; cases e; exact e2
    · rw [upd_ne q] at e; exact S.sub _ _ e
  · by_cases q : b = a
    · rw [q]; exact e4
    · rw [upd_ne q] at h1; exact S.nw b h1 h2
  · obtain ⟨h1, r⟩ := S.pz q e
    have ne : q ≠ a := fun z => e5 (by rw [← z]; exact e.symm)
    exact ⟨by rw [upd_ne ne]; exact h1, r⟩
/-- the body's facts at the entry -/
theorem kx_of {k : Nat} {N ps : List Str} {qual : Str} {scope : Scope} {f : Addr} {cdv : Value} {A : Around} {outer : List PySem.Env} {s : Shared} {H : Hp} {E : XK} {pa : Option Addr} {F : Hp} (S : FnScope N ps scope) (hg : A.guards = some [])
    (hr : Room k (A.deeper (envOfC qual scope s.heap.objs.size f cdv))) : Kx (cxG P w K mg base N qual scope f cdv A outer s H E) ⟨K, mg, pa, F, H, []⟩ (wE E) k :=
  ⟨rfl, rfl, rfl, hg, hr, takes_of rfl rfl rfl rfl, S.nd, passes_of rfl⟩
theorem fnF_of {k : Nat} {f : Addr} {x qual : Str} {params : Arguments} {body : List Stmt} {scope : Scope} {dvs : List V} {kws : List (Str × V)} {fd : FuncData} {N ps : List Str} {st : E Fl}
    (F : FunD K x qual params body scope dvs kws f fd) (S : FnScope N ps scope)
    (hbody : ∀ (cdv : Value) (A : Around) (outer : List PySem.Env) (s : Shared) (H : Hp) (E : XK) (pa : Option Addr) (F0 : Hp), Kx (cxG P w K mg base N qual scope f cdv A outer s H E) ⟨K, mg, pa, F0, H, []⟩ (wE E) k →
      XSs (cxG P w K mg base N qual scope f cdv A outer s H E) ⟨K, mg, pa, F0, H, []⟩ (wE E) body st) : FnG P w K mg base (k + 1) f fd ps (spF K mg ps.length (dF N.length st)) := by
  refine fnG_of F S (fun vs H Q E h => h.1) fun cdv A outer s H vs Q E hg hr h => ?_
  obtain ⟨hl, pa, F0, z, ds, Qd, Xd, sub, pz, r, hm, hq, hx⟩ := h
  obtain ⟨t, h1, h2⟩ := (hbody cdv A outer s H E pa F0 (kx_of S hg hr)).ex
  have hn : vs.length ≤ N.length := by have := congrArg List.length S.pre; rw [List.length_take] at this; omega
  refine ⟨t, h1, h2 (L2.start N vs) (rho0 N.length ds) F0 H z (outF Qd) (fun e _ z => Xd e z) _ (start_ok sub pz r hn) hm (fun fl ρ' z' F' H' q ff => ?_) fun e ρ' z' cls dd σ' F' H' q S' ff r' => hx e z' cls dd F' H' q S'.aft r'⟩
  cases fl with
  | nx => exact fun σ S' => hq _ _ _ _ _ q S'.aft .non
  | ret d => exact fun σ v S' rv => hq _ _ _ _ _ q S'.aft rv
  | retO d =>
    intro σ v S' ⟨a, xs, e1, e2, e3, e4, e5, e6, _⟩
    subst e1
    exact hq _ _ _ _ _ q (S'.frzAny e2 e3 e4 e5) (.lst e5 upd_same (RpL.mono (Same.new e3) e6))
  | bk => exact False.elim q
  | ct => exact False.elim q
theorem fnO_of {k : Nat} {f : Addr} {x qual : Str} {params : Arguments} {body : List Stmt} {scope : Scope} {dvs : List V} {kws : List (Str × V)} {fd : FuncData} {N ps : List Str} {st : E Fl}
    (F : FunD K x qual params body scope dvs kws f fd) (S : FnScope N ps scope)
    (hbody : ∀ (cdv : Value) (A : Around) (outer : List PySem.Env) (s : Shared) (H : Hp) (E : XK) (pa : Option Addr) (F0 : Hp), Kx (cxG P w K mg base N qual scope f cdv A outer s H E) ⟨K, mg, pa, F0, H, []⟩ (wE E) k →
      XSs (cxG P w K mg base N qual scope f cdv A outer s H E) ⟨K, mg, pa, F0, H, []⟩ (wE E) body st) : FnG P w K mg base (k + 1) f fd ps (spO K mg ps.length (dO N.length st)) := by
  refine fnG_of F S (fun vs H Q E h => h.1) fun cdv A outer s H vs Q E hg hr h => ?_
  obtain ⟨hl, pa, F0, z, ds, Qd, Xd, sub, pz, r, hm, hq, hx⟩ := h
  obtain ⟨t, h1, h2⟩ := (hbody cdv A outer s H E pa F0 (kx_of S hg hr)).ex
  have hn : vs.length ≤ N.length := by have := congrArg List.length S.pre; rw [List.length_take] at this; omega
  refine ⟨t, h1, h2 (L2.start N vs) (rho0 N.length ds) F0 H z (outO Qd) (fun e _ z => Xd e z) _ (start_ok sub pz r hn) hm (fun fl ρ' z' F' H' q ff => ?_) fun e ρ' z' cls dd σ' F' H' q S' ff r' => hx e z' cls dd F' H' q S'.aft r'⟩
  cases fl with
  | retO d =>
    intro σ v S' ⟨a, xs, e1, e2, e3, e4, e5, e6, _⟩
    subst e1
    exact hq _ _ _ _ _ _ q S'.aft e2 e3 e4 e5 e6
  | nx => exact False.elim q
  | ret d => exact False.elim q
  | bk => exact False.elim q
  | ct => exact False.elim q
end
end DL

namespace DL
open PySem PySem.Spec PyProof.Rows L2

/-! ## calls of own defs -/
/-- how a call's values become the parameters' -/
structure BG (K : PySem.W.Frag) (fd : FuncData) (ps ks : List Str) (n : Nat) (gV : List V → List V → List V) (gD : List D → List D → List D) : Prop where
  to : ∀ (s : Shared) (us ws : List Value), K.In s.heap → us.length = n → ws.length = ks.length → ∃ us', BindsTo s fd ⟨us, ks.zip ws⟩ (ps.zip us') ∧ ∀ vs zs, Vals vs us → Vals zs ws → Vals (gV vs zs) us'
  rel : ∀ (mg : Str → Option Value) (pa : Option Addr) (F : Hp) vs ds zs es, RpL K mg pa F vs ds → RpL K mg pa F zs es → RpL K mg pa F (gV vs zs) (gD ds es)
def gL {α : Type} : List α → List α → List α := fun a _ => a
theorem bg_pos {K : PySem.W.Frag} {fd : FuncData} {ps : List Str} (h : Binds K fd ps []) : BG K fd ps [] ps.length gL gL :=
  ⟨fun s us ws X l1 l2 => ⟨us, (by
    have b := h s us X (by rw [List.append_nil]; exact l1)
    rw [List.append_nil] at b
    cases ws with
    | nil => exact b
    | cons a r => cases l2), fun vs zs r1 r2 => r1⟩, fun mg pa F vs ds zs es r1 r2 => r1⟩
/-- defaults fill up -/
theorem bg_dfl {K : PySem.W.Frag} {fd : FuncData} {ps : List Str} {n : Nat} {dvs : List V} {dds : List D} (h : ∃ ds, Vals dvs ds ∧ Binds K fd ps ds) (hn : n + dvs.length = ps.length) (hr : ∀ mg pa F, RpL K mg pa F dvs dds) :
    BG K fd ps [] n (fun a _ => a ++ dvs) (fun a _ => a ++ dds) := by
  obtain ⟨es, r, b⟩ := h
  refine ⟨fun s us ws X l1 l2 => ⟨us ++ es, ?_, fun vs zs r1 r2 => r1.append r⟩, fun mg pa F vs ds zs es r1 r2 => r1.append (hr mg pa F)⟩
  cases ws with
  | nil => exact b s us X (by rw [List.length_append, ← r.length]; omega)
  | cons a r => cases l2
section
variable {X : Cx} {C : CC} {W : WX} {k n j : Nat} {f : Addr} {fd : FuncData} {ps ks : List Str} {sp : Sp} {x : Str} {p pos kpos : Pos} {e : Expr} {es : List Expr} {kws : List Keyword} {t tk : TA} {gV : List V → List V → List V} {gD : List D → List D → List D} {nm : Option Str}
theorem run_g {pins : List (Addr × Obj)} {σ : L2.St} {H : Hp} {s : Shared} {Q : VK} {us ws : List Value} {vs zs : List V} (F : FnG X.prog X.w X.K X.mg X.base j f fd ps sp) (kx : Kx X C W k) (hj : j ≤ k) (hb : BG X.K fd ps ks n gV gD)
    (I : Inv X pins σ H s) (r : Vals vs us) (rz : Vals zs ws) (l1 : vs.length = n) (l2 : zs.length = ks.length) (h : sp (gV vs zs) H Q (WE W σ)) : wpAny (model X.prog X.w) X.A (call (.ref f) us (ks.zip ws)) (EP X pins σ Q) X.xe s := by
  obtain ⟨us', b, rr⟩ := hb.to s us ws I.kIn (r.length.symm.trans l1) (rz.length.symm.trans l2)
  refine wpAny_call (codeAny_mono (F.run X.A X.stack s H ⟨us, ks.zip ws⟩ us' (gV vs zs) Q (WE W σ) kx.gu (kx.room.mono hj) I.env0 b (rr _ _ r rz) h) fun r s' hq => ?_)
  cases r with
  | error e => exact passAt kx.tk σ pins H s e s' I hq
  | ok fl =>
    cases fl with
    | ret u => exact I.after hq
    | next => exact False.elim hq
    | brk => exact False.elim hq
    | cont => exact False.elim hq
def tCG (n m : Nat) (sp : Sp) (gV : List V → List V → List V) (W : WX) (t tk : TA) : TE := fun σ H Q => t σ H fun vs H1 => tk σ H1 fun zs H2 => vs.length = n ∧ zs.length = m ∧ sp (gV vs zs) H2 Q (WE W σ)
/-- the def that a global name holds -/
structure GF (X : Cx) (x : Str) (j : Nat) (f : Addr) (fd : FuncData) (ps : List Str) (sp : Sp) : Prop where
  fn : FnG X.prog X.w X.K X.mg X.base j f fd ps sp
  mg : X.mg x = some (.ref f)
  kp : PySem.W.keepIn X.K (.ref f) = true
theorem pe_cg (G : GF X x j f fd ps sp) (kx : Kx X C W k) (hj : j ≤ k) (hb : BG X.K fd ps [] n gV gD) (hg : Gl X x)
    (ha : PA X (e :: es) t) (hdb : (x == ("__debug__" : Str)) = false := by decide) (he : starEach (e :: es) X.env = (false, eval e X.env) :: starEach es X.env := by rfl) (hpl : (backTo pos (starEach es X.env)).any (·.1) = false := by rfl) :
    PE X (.Call (.Name x p) (e :: es) [] pos) (tCG n 0 sp gV W t tNil) := by
  refine ⟨fun pins s σ H Q I h => ?_⟩
  refine wpAny_Call_Name_kw (ld_glob I hg G.mg ?_ hdb)
  refine PySem.W.callWith_K (h₀ := X.base) I.ok.mod.kin G.kp (thn (ha.run pos pins s σ H _ I h) fun us s1 ⟨vs, H1, I1, r, l1, l2, q⟩ => ⟨I1.kIn, ?_⟩) he hpl
  exact run_g (us := us) (ws := []) G.fn kx hj hb I1 r .nil l1 rfl q
theorem pe_cg0 (G : GF X x j f fd ps sp) (kx : Kx X C W k) (hj : j ≤ k) (hb : BG X.K fd ps [] n gV gD) (hg : Gl X x) (hdb : (x == ("__debug__" : Str)) = false := by decide) :
    PE X (.Call (.Name x p) [] [] pos) (tCG n 0 sp gV W tNil tNil) := by
  refine ⟨fun pins s σ H Q I h => ?_⟩
  refine wpAny_Call_Name_kw (ld_glob I hg G.mg ?_ hdb)
  obtain ⟨l1, l2, q⟩ := h
  exact PySem.W.callWith_K0 I.kIn G.kp (run_g (us := []) (ws := []) G.fn kx hj hb I .nil .nil l1 rfl q)
theorem pe_cgK (G : GF X x j f fd ps sp) (kx : Kx X C W k) (hj : j ≤ k) (hb : BG X.K fd ps ks n gV gD) (hg : Gl X x)
    (ha : PA X (e :: es) t) (hkw : PK X kws tk) (hall : (backToKw pos (keywordEach kws X.env)).all (·.1.isSome) = true := by rfl) (hks : (backToKw pos (keywordEach kws X.env)).filterMap (·.1) = ks := by rfl)
    (hdb : (x == ("__debug__" : Str)) = false := by decide) (he : starEach (e :: es) X.env = (false, eval e X.env) :: starEach es X.env := by rfl)
    (hpl : ((backTo pos (starEach (e :: es) X.env)).any (·.1) || (backToKw pos (keywordEach kws X.env)).any (·.1.isNone)) = false := by rfl) :
    PE X (.Call (.Name x p) (e :: es) kws pos) (tCG n ks.length sp gV W t tk) := by
  refine ⟨fun pins s σ H Q I h => ?_⟩
  refine wpAny_Call_Name_kw (ld_glob I hg G.mg ?_ hdb)
  refine PySem.W.callWith_KW (h₀ := X.base) I.ok.mod.kin G.kp hall (thn (ha.run pos pins s σ H _ I h) fun us s1 ⟨vs, H1, I1, r, q⟩ => ?_) hpl he
  refine thn (hkw.run pos pins s1 σ H1 _ I1 q) fun ws s2 ⟨zs, H2, I2, rz, l1, l2, q2⟩ => ⟨I2.kIn, ?_⟩
  rw [hks]
  exact run_g (us := us) (ws := ws) G.fn kx hj hb I2 r rz l1 l2 q2
theorem pe_cgK0 (G : GF X x j f fd ps sp) (kx : Kx X C W k) (hj : j ≤ k) (hb : BG X.K fd ps ks n gV gD) (hg : Gl X x)
    (hkw : PK X kws tk) (hall : (backToKw pos (keywordEach kws X.env)).all (·.1.isSome) = true := by rfl) (hks : (backToKw pos (keywordEach kws X.env)).filterMap (·.1) = ks := by rfl)
    (hdb : (x == ("__debug__" : Str)) = false := by decide)
    (hpl : ((backTo pos (starEach [] X.env)).any (·.1) || (backToKw pos (keywordEach kws X.env)).any (·.1.isNone)) = false := by rfl) :
    PE X (.Call (.Name x p) [] kws pos) (tCG n ks.length sp gV W tNil tk) := by
  refine ⟨fun pins s σ H Q I h => ?_⟩
  refine wpAny_Call_Name_kw (ld_glob I hg G.mg ?_ hdb)
  refine PySem.W.callWith_KW0 (h₀ := X.base) I.ok.mod.kin G.kp hall (thn (hkw.run pos pins s σ H _ I h) fun ws s2 ⟨zs, H2, I2, rz, l1, l2, q2⟩ => ⟨I2.kIn, ?_⟩) hpl
  rw [hks]
  exact run_g (us := []) (ws := ws) G.fn kx hj hb I2 .nil rz l1 l2 q2

/-! ### .. on data -/
structure XKw (X : Cx) (C : CC) (W : WX) (ks : List Keyword) (m : E (List D)) : Prop where
  ex : ∃ t, PK X ks t ∧ Den C W t m (kL C)
theorem xk_nil : XKw X C W [] (ep []) := ⟨tNil, pk_nil, fun σ ρ F H z Qd Xd Q S hm hq hx => S.same (R := kL C) hm .nil hq⟩
theorem xk_cons {m : E D} {ms : E (List D)} (h : XE X C W e m) (hs : XKw X C W kws ms) : XKw X C W (⟨nm, e, kpos⟩ :: kws) (eb m fun d => eb ms fun ds => ep (d :: ds)) := by
  obtain ⟨t, h1, h2⟩ := h.ex
  obtain ⟨ts, g1, g2⟩ := hs.ex
  refine ⟨tCons t ts, pk_cons h1 g1, Den.bind (u := fun x σ H Q => ts σ H fun xs H2 => Q (x :: xs) H2) back_L h2 fun H0 σ ρ F H z a x Qd Xd Q S ra hm hq hx => ?_⟩
  exact g2 σ ρ F H z _ Xd _ S hm (fun ds ρ2 z2 xs F2 H2 q2 S2 ff2 k2 o2 rb => hq _ ρ2 z2 _ F2 H2 q2 S2 ff2 k2 o2 (.cons (Rp.mono ff2 ra) rb)) hx
def fCall {α : Type} (n n1 n2 : Nat) (m : List D → E0 α) (gD : List D → List D → List D) (ds es : List D) : E α := fun ρ Q X z => ds.length = n1 ∧ es.length = n2 ∧ (gD ds es).length = n ∧ e0 (m (gD ds es)) ρ Q X z
def eCall {α : Type} (n n1 n2 : Nat) (m : List D → E0 α) (gD : List D → List D → List D) (ma mk : E (List D)) : E α := eb ma fun ds => eb mk fun es => fCall n n1 n2 m gD ds es
theorem StOk.call {σ : L2.St} {ρ : Rho} {F H F' H' : Hp} {z z' : Int} (S : StOk C σ ρ F H z) (a : Aft C.pa F H F' H' z') : StOk C σ ρ F' H' z' := S.grow a.1 a.2.1 a.2.2.1 a.2.2.2.1 a.2.2.2.2
theorem den_callF {N n1 n2 : Nat} {ta tk : TA} {ma mk : E (List D)} {m : List D → E0 D} {gV : List V → List V → List V} {gD : List D → List D → List D} (hK : X.K = C.K) (hmg : X.mg = C.mg)
    (hr : ∀ (mg : Str → Option Value) (pa : Option Addr) (F : Hp) vs ds zs es, RpL X.K mg pa F vs ds → RpL X.K mg pa F zs es → RpL X.K mg pa F (gV vs zs) (gD ds es))
    (ha : Den C W ta ma (kL C)) (hk : Den C W tk mk (kL C)) : Den C W (tCG n1 n2 (spF X.K X.mg N m) gV W ta tk) (eCall N n1 n2 m gD ma mk) (kR C) := by
  refine Den.bind (u := fun vs σ H Q => tk σ H fun zs H2 => vs.length = n1 ∧ zs.length = n2 ∧ spF X.K X.mg N m (gV vs zs) H2 Q (WE W σ)) back_R ha ?_
  intro H0 σ ρ F H z ds vs Qd Xd Q S ra hm hq hx
  refine hk σ ρ F H z _ Xd _ S hm (fun es ρ2 z2 zs F2 H2 q2 S2 ff2 k2 o2 rb => ?_) hx
  obtain ⟨q1, q2, q3, q4⟩ := q2
  have ra2 : C.RL F2 vs ds := RpL.mono ff2 ra
  have rr : C.RL F2 (gV vs zs) (gD ds es) := by
    have := hr C.mg C.pa F2 vs ds zs es (by rw [hK]; exact ra2) (by rw [hK]; exact rb)
    rw [hK] at this
    exact this
  refine ⟨(RpL.length ra).trans q1, (RpL.length rb).trans q2, (RpL.length rr).trans q3, C.pa, F2, z2, gD ds es, _, _, S2.sub, S2.pz, ?_, q4, fun d z' v F' H' q' a r => ?_, fun e z' cls dd F' H' q' a r => ?_⟩
  · rw [hK, hmg]; exact rr
  · refine hq d ρ2 z' v F' H' q' (S2.call a) (ff2.trans a.1) (k2.trans a.2.2.1) o2 ?_
    rw [hK, hmg] at r
    exact r
  · refine hx e ρ2 z' cls dd F' H' q' (S2.call a) (ff2.trans a.1) ?_
    rw [hK, hmg] at r
    exact r
theorem den_callO {N n1 n2 : Nat} {ta tk : TA} {ma mk : E (List D)} {m : List D → E0 (List D)} {gV : List V → List V → List V} {gD : List D → List D → List D} (hK : X.K = C.K) (hmg : X.mg = C.mg)
    (hr : ∀ (mg : Str → Option Value) (pa : Option Addr) (F : Hp) vs ds zs es, RpL X.K mg pa F vs ds → RpL X.K mg pa F zs es → RpL X.K mg pa F (gV vs zs) (gD ds es))
    (ha : Den C W ta ma (kL C)) (hk : Den C W tk mk (kL C)) : Den C W (tCG n1 n2 (spO X.K X.mg N m) gV W ta tk) (eCall N n1 n2 m gD ma mk) (RO C) := by
  refine Den.bind (u := fun vs σ H Q => tk σ H fun zs H2 => vs.length = n1 ∧ zs.length = n2 ∧ spO X.K X.mg N m (gV vs zs) H2 Q (WE W σ)) back_O ha ?_
  intro H0 σ ρ F H z ds vs Qd Xd Q S ra hm hq hx
  refine hk σ ρ F H z _ Xd _ S hm (fun es ρ2 z2 zs F2 H2 q2 S2 ff2 k2 o2 rb => ?_) hx
  obtain ⟨q1, q2, q3, q4⟩ := q2
  have ra2 : C.RL F2 vs ds := RpL.mono ff2 ra
  have rr : C.RL F2 (gV vs zs) (gD ds es) := by
    have := hr C.mg C.pa F2 vs ds zs es (by rw [hK]; exact ra2) (by rw [hK]; exact rb)
    rw [hK] at this
    exact this
  refine ⟨(RpL.length ra).trans q1, (RpL.length rb).trans q2, (RpL.length rr).trans q3, C.pa, F2, z2, gD ds es, _, _, S2.sub, S2.pz, ?_, q4, fun d z' a xs F' H' q' af e1 e2 e3 e4 r => ?_, fun e z' cls dd F' H' q' a r => ?_⟩
  · rw [hK, hmg]; exact rr
  · refine hq d ρ2 z' _ F' H' q' (S2.call af) (ff2.trans af.1) (k2.trans af.2.2.1) o2 ?_
    rw [hK, hmg] at r
    exact back_O (C := C) H H2 F' H' (.ref a) d k2 ⟨a, xs, rfl, e1, e2, e3, e4, r⟩
  · refine hx e ρ2 z' cls dd F' H' q' (S2.call a) (ff2.trans a.1) ?_
    rw [hK, hmg] at r
    exact r
section
variable {N : Nat} {ma mk : E (List D)} {m : List D → E0 D} {mo : List D → E0 (List D)}
theorem xe_call (G : GF X x j f fd ps (spF X.K X.mg N m)) (kx : Kx X C W k) (hj : j ≤ k) (hb : BG X.K fd ps [] n gV gD) (hg : Gl X x)
    (ha : XA X C W (e :: es) ma) (hdb : (x == ("__debug__" : Str)) = false := by decide) (he : starEach (e :: es) X.env = (false, eval e X.env) :: starEach es X.env := by rfl) (hpl : (backTo pos (starEach es X.env)).any (·.1) = false := by rfl) :
    XE X C W (.Call (.Name x p) (e :: es) [] pos) (eCall N n 0 m gD ma (ep [])) := by
  obtain ⟨t, h1, h2⟩ := ha.ex
  exact ⟨_, pe_cg G kx hj hb hg h1 hdb he hpl, den_callF kx.hK kx.hmg hb.rel h2 (fun σ ρ F H z Qd Xd Q S hm hq hx => S.same (R := kL C) hm .nil hq)⟩
theorem xe_call0 (G : GF X x j f fd ps (spF X.K X.mg N m)) (kx : Kx X C W k) (hj : j ≤ k) (hb : BG X.K fd ps [] n gV gD) (hg : Gl X x) (hdb : (x == ("__debug__" : Str)) = false := by decide) :
    XE X C W (.Call (.Name x p) [] [] pos) (eCall N n 0 m gD (ep []) (ep [])) :=
  ⟨_, pe_cg0 G kx hj hb hg hdb, den_callF kx.hK kx.hmg hb.rel (fun σ ρ F H z Qd Xd Q S hm hq hx => S.same (R := kL C) hm .nil hq) (fun σ ρ F H z Qd Xd Q S hm hq hx => S.same (R := kL C) hm .nil hq)⟩
theorem xo_call (G : GF X x j f fd ps (spO X.K X.mg N mo)) (kx : Kx X C W k) (hj : j ≤ k) (hb : BG X.K fd ps [] n gV gD) (hg : Gl X x)
    (ha : XA X C W (e :: es) ma) (hdb : (x == ("__debug__" : Str)) = false := by decide) (he : starEach (e :: es) X.env = (false, eval e X.env) :: starEach es X.env := by rfl) (hpl : (backTo pos (starEach es X.env)).any (·.1) = false := by rfl) :
    XO X C W (.Call (.Name x p) (e :: es) [] pos) (eCall N n 0 mo gD ma (ep [])) := by
  obtain ⟨t, h1, h2⟩ := ha.ex
  exact ⟨_, pe_cg G kx hj hb hg h1 hdb he hpl, den_callO kx.hK kx.hmg hb.rel h2 (fun σ ρ F H z Qd Xd Q S hm hq hx => S.same (R := kL C) hm .nil hq)⟩
theorem xe_callK (G : GF X x j f fd ps (spF X.K X.mg N m)) (kx : Kx X C W k) (hj : j ≤ k) (hb : BG X.K fd ps ks n gV gD) (hg : Gl X x)
    (ha : XA X C W (e :: es) ma) (hkw : XKw X C W kws mk) (hall : (backToKw pos (keywordEach kws X.env)).all (·.1.isSome) = true := by rfl) (hks : (backToKw pos (keywordEach kws X.env)).filterMap (·.1) = ks := by rfl)
    (hdb : (x == ("__debug__" : Str)) = false := by decide) (he : starEach (e :: es) X.env = (false, eval e X.env) :: starEach es X.env := by rfl)
    (hpl : ((backTo pos (starEach (e :: es) X.env)).any (·.1) || (backToKw pos (keywordEach kws X.env)).any (·.1.isNone)) = false := by rfl) :
    XE X C W (.Call (.Name x p) (e :: es) kws pos) (eCall N n ks.length m gD ma mk) := by
  obtain ⟨t, h1, h2⟩ := ha.ex
  obtain ⟨u, g1, g2⟩ := hkw.ex
  exact ⟨_, pe_cgK G kx hj hb hg h1 g1 hall hks hdb he hpl, den_callF kx.hK kx.hmg hb.rel h2 g2⟩
theorem xe_callK0 (G : GF X x j f fd ps (spF X.K X.mg N m)) (kx : Kx X C W k) (hj : j ≤ k) (hb : BG X.K fd ps ks n gV gD) (hg : Gl X x)
    (hkw : XKw X C W kws mk) (hall : (backToKw pos (keywordEach kws X.env)).all (·.1.isSome) = true := by rfl) (hks : (backToKw pos (keywordEach kws X.env)).filterMap (·.1) = ks := by rfl)
    (hdb : (x == ("__debug__" : Str)) = false := by decide)
    (hpl : ((backTo pos (starEach [] X.env)).any (·.1) || (backToKw pos (keywordEach kws X.env)).any (·.1.isNone)) = false := by rfl) :
    XE X C W (.Call (.Name x p) [] kws pos) (eCall N n ks.length m gD (ep []) mk) := by
  obtain ⟨u, g1, g2⟩ := hkw.ex
  exact ⟨_, pe_cgK0 G kx hj hb hg g1 hall hks hdb hpl, den_callF kx.hK kx.hmg hb.rel (fun σ ρ F H z Qd Xd Q S hm hq hx => S.same (R := kL C) hm .nil hq) g2⟩
theorem xo_callK0 (G : GF X x j f fd ps (spO X.K X.mg N mo)) (kx : Kx X C W k) (hj : j ≤ k) (hb : BG X.K fd ps ks n gV gD) (hg : Gl X x)
    (hkw : XKw X C W kws mk) (hall : (backToKw pos (keywordEach kws X.env)).all (·.1.isSome) = true := by rfl) (hks : (backToKw pos (keywordEach kws X.env)).filterMap (·.1) = ks := by rfl)
    (hdb : (x == ("__debug__" : Str)) = false := by decide)
    (hpl : ((backTo pos (starEach [] X.env)).any (·.1) || (backToKw pos (keywordEach kws X.env)).any (·.1.isNone)) = false := by rfl) :
    XO X C W (.Call (.Name x p) [] kws pos) (eCall N n ks.length mo gD (ep []) mk) := by
  obtain ⟨u, g1, g2⟩ := hkw.ex
  exact ⟨_, pe_cgK0 G kx hj hb hg g1 hall hks hdb hpl, den_callO kx.hK kx.hmg hb.rel (fun σ ρ F H z Qd Xd Q S hm hq hx => S.same (R := kL C) hm .nil hq) g2⟩
theorem xo_callK (G : GF X x j f fd ps (spO X.K X.mg N mo)) (kx : Kx X C W k) (hj : j ≤ k) (hb : BG X.K fd ps ks n gV gD) (hg : Gl X x)
    (ha : XA X C W (e :: es) ma) (hkw : XKw X C W kws mk) (hall : (backToKw pos (keywordEach kws X.env)).all (·.1.isSome) = true := by rfl) (hks : (backToKw pos (keywordEach kws X.env)).filterMap (·.1) = ks := by rfl)
    (hdb : (x == ("__debug__" : Str)) = false := by decide) (he : starEach (e :: es) X.env = (false, eval e X.env) :: starEach es X.env := by rfl)
    (hpl : ((backTo pos (starEach (e :: es) X.env)).any (·.1) || (backToKw pos (keywordEach kws X.env)).any (·.1.isNone)) = false := by rfl) :
    XO X C W (.Call (.Name x p) (e :: es) kws pos) (eCall N n ks.length mo gD ma mk) := by
  obtain ⟨t, h1, h2⟩ := ha.ex
  obtain ⟨u, g1, g2⟩ := hkw.ex
  exact ⟨_, pe_cgK G kx hj hb hg h1 g1 hall hks hdb he hpl, den_callO kx.hK kx.hmg hb.rel h2 g2⟩
end
end
end DL

namespace DL
open PySem PySem.Spec PyProof.Rows L2

section
variable {X : Cx} {C : CC} {W : WX} {e a b : Expr} {m ma mb : E D} {pos p2 : Pos} {k : Nat} {lo hi : Option Expr}
/-! ## subscripts -/
theorem RpL.atI {K : PySem.W.Frag} {mg : Str → Option Value} {pa : Option Addr} {F : Hp} {vs : List V} {ds : List D} {i : Int} {d : D} (h : RpL K mg pa F vs ds) (e : atI ds i = some d) : ∃ v, L2.atI vs i = some v ∧ Rp K mg pa F v d := by
  unfold L2.atI at e ⊢
  rw [RpL.length h]
  cases q : ixN ds.length i with
  | none => rw [q] at e; cases e
  | some j =>
    rw [q] at e
    exact RpL.get h e
theorem o_ix : Op2 C W (rIx C.K) (fun x y => eP (dIx x y)) (kR C) := op2_flat fun F H x y dx dy Q Qd s rx ry hp hq => by
  cases dy with
  | int i =>
    obtain rfl := RT.int ry
    cases dx with
    | lst ds =>
      obtain ⟨d, e, q⟩ := hp
      obtain ⟨a, xs, rfl, ha, r, _⟩ := RT.lst s rx
      obtain ⟨v, e1, r1⟩ := RpL.atI r e
      exact .inl ⟨a, xs, i, v, rfl, rfl, .inl (.inl ha), e1, hq _ _ q r1⟩
    | tup ds =>
      obtain ⟨d, e, q⟩ := hp
      obtain ⟨a, xs, rfl, ha, r⟩ := RT.tup s rx
      obtain ⟨v, e1, r1⟩ := RpL.atI r e
      exact .inr (.inl ⟨a, xs, i, v, rfl, rfl, ha, e1, hq _ _ q r1⟩)
    | str z =>
      obtain ⟨h1, c, e, q⟩ := hp
      obtain rfl := RT.str rx
      exact .inr (.inr ⟨z, i, c, rfl, rfl, line_le h1, e, hq _ _ q (.str _)⟩)
    | scr ns =>
      obtain ⟨j, e, q⟩ := hp
      obtain ⟨a, rfl, ha⟩ := RT.scr s rx
      have e1 : L2.atI (ns.map V.int) i = some (V.int j) := by
        unfold L2.atI at e ⊢
        rw [List.length_map]
        cases q : ixN ns.length i with
        | none => rw [q] at e; cases e
        | some k =>
          rw [q] at e
          show (ns.map V.int)[k]? = _
          rw [List.getElem?_map, show ns[k]? = some j from e]
          rfl
      exact .inl ⟨a, _, i, _, rfl, rfl, ha, e1, hq _ _ q (.int _)⟩
    | _ => exact hp.elim
  | _ => cases dx <;> exact hp.elim
theorem xe_ix (hK : X.K = C.K) (ha : XP X C W a ma) (hb : XP X C W b mb) (hs : PlainIx b) : XE X C W (.Subscript a b pos) (eb ma fun x => eb mb fun y => eP (dIx x y)) := by
  obtain ⟨ta, a1, a2⟩ := ha.ex
  obtain ⟨tb, b1, b2⟩ := hb.ex
  refine ⟨_, pe_ix ix_seq a1 b1 hs, ?_⟩
  rw [hK]
  exact den_op back_R a2 b2 o_ix

/-! ## slices -/
structure XPart (X : Cx) (C : CC) (W : WX) (e : Option Expr) (m : E (Option Int)) : Prop where
  ex : ∃ t, PO X e t ∧ Den C W t m (fun _ _ _ a b => a = b)
def fPart : D → E (Option Int)
  | .int i => ep (some i)
  | _ => eStuck
theorem xpt_none : XPart X C W none (ep none) := ⟨tNoPart, po_none, fun σ ρ F H z Qd Xd Q S hm hq hx => S.same (R := fun _ _ _ a b => a = b) hm rfl hq⟩
theorem xpt_some (h : XP X C W e m) : XPart X C W (some e) (eb m fPart) := by
  obtain ⟨t, h1, h2⟩ := h.ex
  refine ⟨_, po_some h1, Den.bind (u := fun x (_ : L2.St) H Q => ∃ i, x = .int i ∧ Q (some i) H) (fun _ _ _ _ _ _ _ h => h) h2 fun H0 σ ρ F H z a x Qd Xd Q S ra hm hq hx => ?_⟩
  cases a with
  | int i =>
    obtain rfl := RT.int ra
    exact ⟨i, rfl, S.same (R := fun _ _ _ a b => a = b) hm rfl hq⟩
  | _ => exact False.elim hm
def cutD (xs : List D) (lo hi : Option Int) : List D := (xs.drop (HT.sIx xs.length 0 lo)).take (HT.sIx xs.length xs.length hi - HT.sIx xs.length 0 lo)
theorem RpL.cut {K : PySem.W.Frag} {mg : Str → Option Value} {pa : Option Addr} {F : Hp} {vs : List V} {ds : List D} (h : RpL K mg pa F vs ds) (lo hi : Option Int) : RpL K mg pa F (cutV vs lo hi) (cutD ds lo hi) := by
  unfold cutV cutD
  rw [RpL.length h]
  exact RpL.take _ (RpL.drop _ h)
/-- a slice of a list: a new list -/
def fSlO (d : D) (lo hi : Option Int) : E (List D) := match d with
  | .lst ds => ep (cutD ds lo hi)
  | _ => eStuck
def fSlE (d : D) (lo hi : Option Int) : E D := match d with
  | .tup ds => ep (.tup (cutD ds lo hi))
  | .str s => fun ρ Q _ z => s.length ≤ 16777216 ∧ Q (.str (Txt.slice s lo hi)) ρ z
  | _ => eStuck
theorem den_sl {α : Type} {te : TE} {tl th : TO} {ml mh : E (Option Int)} {r : V → Option Int → Option Int → Hp → VK → Prop} {f : D → Option Int → Option Int → E α} {R : Hp → Hp → Hp → V → α → Prop} (hB : Back C R)
    (he : Den C W te m (kT C)) (hl : Den C W tl ml (fun _ _ _ a b => a = b)) (hh : Den C W th mh (fun _ _ _ a b => a = b))
    (ho : ∀ lo hi, Op1 C W (fun x H Q => r x lo hi H Q) (fun d => f d lo hi) R) : Den C W (tSl r te tl th) (eb m fun d => eb ml fun lo => eb mh fun hi => f d lo hi) R := by
  refine Den.bind (u := fun x σ H Q => tl σ H fun l H2 => th σ H2 fun u H3 => r x l u H3 Q) hB he fun H0 σ ρ F H z d x Qd Xd Q S rx hm hq hx => ?_
  refine hl σ ρ F H z _ Xd _ S hm (fun l ρ2 z2 l' F2 H2 q2 S2 ff2 k2 o2 el => ?_) hx
  subst el
  refine hh σ ρ2 F2 H2 z2 _ Xd _ S2 q2 (fun u ρ3 z3 u' F3 H3 q3 S3 ff3 k3 o3 eu => ?_) (fun e ρ' z' cls dd F' H' q' S' ff' r' => hx e ρ' z' cls dd F' H' q' S' (ff2.trans ff') r')
  subst eu
  exact ho _ _ σ ρ3 F3 H3 z3 x d Qd Xd Q S3 ((rx.keep ff2 k2).keep ff3 k3) q3
    (fun c ρ' z' d' F' H' q' S' ff' k' o' r' => hq c ρ' z' d' F' H' q' S' (ff2.trans (ff3.trans ff')) (k2.trans (k3.trans k')) ((o'.trans o3).trans o2) (hB _ _ _ _ _ _ (k2.trans k3) r'))
    (fun e ρ' z' cls dd F' H' q' S' ff' r' => hx e ρ' z' cls dd F' H' q' S' (ff2.trans (ff3.trans ff')) r')
theorem o_slO (lo hi : Option Int) : Op1 C W (fun x H Q => rSlL C.K x lo hi H Q) (fun d => fSlO d lo hi) (RO C) := fun σ ρ F H z x dx Qd Xd Q S rx hm hq hx => by
  cases dx with
  | lst ds =>
    obtain ⟨a, xs, rfl, ha, r, _⟩ := RT.lst S.sub rx
    exact ⟨a, xs, rfl, .inl (.inl ha), fun p hp => S.newL hp (RpL.cut r lo hi) hm hq⟩
  | _ => exact False.elim hm
theorem cut_all {ds : List D} {lo hi : Option Int} (h : HT.sIx ds.length 0 lo = 0 ∧ HT.sIx ds.length ds.length hi = ds.length) : cutD ds lo hi = ds := by
  unfold cutD
  rw [h.1, h.2]
  simp
theorem o_slE (lo hi : Option Int) : Op1 C W (fun x H Q => rSlA C.K x lo hi H Q ∨ C8.rSlX x lo hi H Q) (fun d => fSlE d lo hi) (kR C) := fun σ ρ F H z x dx Qd Xd Q S rx hm hq hx => by
  cases dx with
  | tup ds =>
    obtain ⟨a, xs, rfl, ha, r⟩ := RT.tup S.sub rx
    have hl := RpL.length r
    refine .inl ⟨a, xs, rfl, ha, fun hw => ?_, fun _ p hp => S.newT hp (RpL.cut r lo hi) hm hq⟩
    rw [hl] at hw
    have e := cut_all hw
    have hm' : Qd (.tup (cutD ds lo hi)) ρ z := hm
    rw [e] at hm'
    refine S.same (R := kR C) hm' ?_ hq
    rcases rx with rx | ⟨_, _, _, _, e, _⟩
    · exact rx
    · cases e
  | str s =>
    obtain rfl := RT.str rx
    exact .inr ⟨s, rfl, line_le hm.1, S.same (R := kR C) hm.2 (.str _) hq⟩
  | _ => exact False.elim hm
theorem xo_slice {ml mh : E (Option Int)} (hK : X.K = C.K) (he : XP X C W e m) (hl : XPart X C W lo ml) (hh : XPart X C W hi mh) : XO X C W (.Subscript e (.Slice lo hi none p2) pos) (eb m fun d => eb ml fun lo => eb mh fun hi => fSlO d lo hi) := by
  obtain ⟨t, a1, a2⟩ := he.ex
  obtain ⟨tl, b1, b2⟩ := hl.ex
  obtain ⟨th, c1, c2⟩ := hh.ex
  refine ⟨_, pe_slice sl_list a1 b1 c1, ?_⟩
  rw [hK]
  exact den_sl back_O a2 b2 c2 o_slO
theorem xe_slice {ml mh : E (Option Int)} (hK : X.K = C.K) (he : XP X C W e m) (hl : XPart X C W lo ml) (hh : XPart X C W hi mh) : XE X C W (.Subscript e (.Slice lo hi none p2) pos) (eb m fun d => eb ml fun lo => eb mh fun hi => fSlE d lo hi) := by
  obtain ⟨t, a1, a2⟩ := he.ex
  obtain ⟨tl, b1, b2⟩ := hl.ex
  obtain ⟨th, c1, c2⟩ := hh.ex
  refine ⟨_, pe_slice (sl_tupA.or C8.sl_txt) a1 b1 c1, ?_⟩
  rw [hK]
  exact den_sl back_R a2 b2 c2 o_slE

/-! ## built-in functions -/
section
variable {x : Str} {p : Pos} {id T : String} {r : List V → Hp → VK → Prop} {f : D → E D} {fo : D → E (List D)} {f2 : D → D → E D}
abbrev S1 (X : Cx) (a : Expr) : Prop := starEach [a] X.env = (false, eval a X.env) :: starEach [] X.env
theorem pa1 {ta : TE} (ha : PE X a ta) (h1 : S1 X a) : PA X [a] (tCons ta tNil) := pa_cons ha pa_nil h1
theorem pa2 {ta tb : TE} (ha : PE X a ta) (hb : PE X b tb) (hp : starEach (a :: [b]) X.env = (false, eval a X.env) :: starEach [b] X.env) (h1 : S1 X b) : PA X [a, b] (tCons ta (tCons tb tNil)) := pa_cons ha (pa_cons hb pa_nil h1) hp
theorem xe_b1 (hc : CallR X (.builtin id) r) (ho : Op1 C W (fun x H Q => r [x] H Q) f (kR C)) (ha : XP X C W a ma) (hg : Gl X x) (hm : X.mg x = none) (hv : bootBuiltins x = some (.builtin id)) (hn : x ≠ "__name__" := by decide) (hdb : (x == ("__debug__" : Str)) = false := by decide) (h1 : S1 X a := by rfl) :
    XE X C W (.Call (.Name x p) [a] [] pos) (eb ma f) := by
  obtain ⟨ta, a1, a2⟩ := ha.ex
  exact ⟨_, pe_callB hc hg hm hv (pa1 a1 h1) hn hdb h1, den_un (r := fun x H Q => r [x] H Q) back_R a2 ho⟩
theorem xe_t1 (hc : CallR X (.type T) r) (ho : Op1 C W (fun x H Q => r [x] H Q) f (kR C)) (ha : XP X C W a ma) (hg : Gl X x) (hm : X.mg x = none) (hv : bootBuiltins x = some (.type T)) (hn : x ≠ "__name__" := by decide) (hdb : (x == ("__debug__" : Str)) = false := by decide) (h1 : S1 X a := by rfl) :
    XE X C W (.Call (.Name x p) [a] [] pos) (eb ma f) := by
  obtain ⟨ta, a1, a2⟩ := ha.ex
  exact ⟨_, pe_callTy hc hg hm hv (pa1 a1 h1) hn hdb h1, den_un (r := fun x H Q => r [x] H Q) back_R a2 ho⟩
theorem xo_b1 (hc : CallR X (.builtin id) r) (ho : Op1 C W (fun x H Q => r [x] H Q) fo (RO C)) (ha : XP X C W a ma) (hg : Gl X x) (hm : X.mg x = none) (hv : bootBuiltins x = some (.builtin id)) (hn : x ≠ "__name__" := by decide) (hdb : (x == ("__debug__" : Str)) = false := by decide) (h1 : S1 X a := by rfl) :
    XO X C W (.Call (.Name x p) [a] [] pos) (eb ma fo) := by
  obtain ⟨ta, a1, a2⟩ := ha.ex
  exact ⟨_, pe_callB hc hg hm hv (pa1 a1 h1) hn hdb h1, den_un (r := fun x H Q => r [x] H Q) back_O a2 ho⟩
theorem xo_t1 (hc : CallR X (.type T) r) (ho : Op1 C W (fun x H Q => r [x] H Q) fo (RO C)) (ha : XP X C W a ma) (hg : Gl X x) (hm : X.mg x = none) (hv : bootBuiltins x = some (.type T)) (hn : x ≠ "__name__" := by decide) (hdb : (x == ("__debug__" : Str)) = false := by decide) (h1 : S1 X a := by rfl) :
    XO X C W (.Call (.Name x p) [a] [] pos) (eb ma fo) := by
  obtain ⟨ta, a1, a2⟩ := ha.ex
  exact ⟨_, pe_callTy hc hg hm hv (pa1 a1 h1) hn hdb h1, den_un (r := fun x H Q => r [x] H Q) back_O a2 ho⟩
theorem xe_b2 (hc : CallR X (.builtin id) r) (ho : Op2 C W (fun x y H Q => r [x, y] H Q) f2 (kR C)) (ha : XP X C W a ma) (hb : XP X C W b mb) (hg : Gl X x) (hm : X.mg x = none) (hv : bootBuiltins x = some (.builtin id)) (hn : x ≠ "__name__" := by decide) (hdb : (x == ("__debug__" : Str)) = false := by decide)
    (hp : starEach (a :: [b]) X.env = (false, eval a X.env) :: starEach [b] X.env := by rfl) (hpl : (backTo pos (starEach [b] X.env)).any (·.1) = false := by rfl) (h1 : S1 X b := by rfl) :
    XE X C W (.Call (.Name x p) [a, b] [] pos) (eb ma fun x => eb mb fun y => f2 x y) := by
  obtain ⟨ta, a1, a2⟩ := ha.ex
  obtain ⟨tb, b1, b2⟩ := hb.ex
  exact ⟨_, pe_callB hc hg hm hv (pa2 a1 b1 hp h1) hn hdb hp hpl, den_op (r := fun x y H Q => r [x, y] H Q) back_R a2 b2 ho⟩
end
/-- the answers -/
def dLen : P1
  | .str s, Q => s.length ≤ 16777216 ∧ Q (.int s.length)
  | .lst ds, Q => Q (.int ds.length)
  | .tup ds, Q => Q (.int ds.length)
  | .scr ns, Q => Q (.int ns.length)
  | _, _ => False
def dAbs : P1
  | .int i, Q => Q (.int (if i < 0 then -i else i))
  | _, _ => False
def dInt : P1
  | .int i, Q => Q (.int i)
  | .bl b, Q => Q (.int (if b then 1 else 0))
  | _, _ => False
def dBool : P1
  | .int i, Q => Q (.bl (i != 0))
  | .bl b, Q => Q (.bl b)
  | _, _ => False
def dMax : P2
  | .int i, .int j, Q => Q (.int (if j > i then j else i))
  | _, _, _ => False
def dMin : P2
  | .int i, .int j, Q => Q (.int (if j < i then j else i))
  | _, _, _ => False
def blsOf : List D → Option (List Bool)
  | [] => some []
  | .bl b :: r => (blsOf r).map (b :: ·)
  | _ :: _ => none
def intsOf : List D → Option (List Int)
  | [] => some []
  | .int b :: r => (intsOf r).map (b :: ·)
  | _ :: _ => none
def dAny : P1
  | .lst ds, Q => ∃ bs, blsOf ds = some bs ∧ Q (.bl (bs.any id))
  | _, _ => False
def dAll : P1
  | .lst ds, Q => ∃ bs, blsOf ds = some bs ∧ Q (.bl (bs.all id))
  | _, _ => False
theorem RpL.bls {K : PySem.W.Frag} {mg : Str → Option Value} {pa : Option Addr} {F : Hp} : ∀ {ds : List D} {vs : List V} {bs : List Bool}, RpL K mg pa F vs ds → blsOf ds = some bs → vs = bs.map V.bl
  | [], _, _, h, e => by cases h; cases e; rfl
  | d :: ds, _, bs, h, e => by
    cases h with
    | cons r rr =>
      cases d with
      | bl b =>
        cases r
        simp only [blsOf, Option.map_eq_some_iff] at e
        obtain ⟨bs', e1, rfl⟩ := e
        rw [RpL.bls rr e1]
        rfl
      | _ => cases e
theorem RpL.ints {K : PySem.W.Frag} {mg : Str → Option Value} {pa : Option Addr} {F : Hp} : ∀ {ds : List D} {vs : List V} {bs : List Int}, RpL K mg pa F vs ds → intsOf ds = some bs → vs = bs.map V.int
  | [], _, _, h, e => by cases h; cases e; rfl
  | d :: ds, _, bs, h, e => by
    cases h with
    | cons r rr =>
      cases d with
      | int b =>
        cases r
        simp only [intsOf, Option.map_eq_some_iff] at e
        obtain ⟨bs', e1, rfl⟩ := e
        rw [RpL.ints rr e1]
        rfl
      | _ => cases e
theorem o_len : Op1 C W (fun x H Q => ∃ y n, [x] = [y] ∧ LenV C.K y H n ∧ Q (.int n) H) (fun d => eP (dLen d)) (kR C) := op1_flat fun F H x dx Q Qd s rx hp hq => by
  cases dx with
  | str z => obtain rfl := RT.str rx; exact ⟨_, _, rfl, ⟨line_le hp.1, rfl⟩, hq _ _ hp.2 (.int _)⟩
  | lst ds =>
    obtain ⟨a, xs, rfl, ha, r, _⟩ := RT.lst s rx
    exact ⟨_, xs.length, rfl, .inl ⟨xs, .inl (.inl ha), rfl⟩, hq _ _ hp (by rw [RpL.length r]; exact .int _)⟩
  | tup ds =>
    obtain ⟨a, xs, rfl, ha, r⟩ := RT.tup s rx
    exact ⟨_, xs.length, rfl, .inr ⟨xs, ha, rfl⟩, hq _ _ hp (by rw [RpL.length r]; exact .int _)⟩
  | scr ns =>
    obtain ⟨a, rfl, ha⟩ := RT.scr s rx
    exact ⟨_, (ns.map V.int).length, rfl, .inl ⟨_, ha, rfl⟩, hq _ _ hp (by rw [List.length_map]; exact .int _)⟩
  | _ => exact hp.elim
theorem o_abs : Op1 C W (fun x H Q => ∃ i, [x] = [V.int i] ∧ Q (.int (if i < 0 then -i else i)) H) (fun d => eP (dAbs d)) (kR C) := op1_flat fun F H x dx Q Qd s rx hp hq => by
  cases dx with
  | int i => obtain rfl := RT.int rx; exact ⟨i, rfl, hq _ _ hp (.int _)⟩
  | _ => exact hp.elim
theorem o_int1 : Op1 C W (fun x H Q => (∃ i, [x] = [V.int i] ∧ Q (.int i) H) ∨ ∃ k, [x] = [V.bl k] ∧ Q (.int (if k then 1 else 0)) H) (fun d => eP (dInt d)) (kR C) := op1_flat fun F H x dx Q Qd s rx hp hq => by
  cases dx with
  | int i => obtain rfl := RT.int rx; exact .inl ⟨i, rfl, hq _ _ hp (.int _)⟩
  | bl i => obtain rfl := RT.bl rx; exact .inr ⟨i, rfl, hq _ _ hp (.int _)⟩
  | _ => exact hp.elim
theorem o_bool1 : Op1 C W (fun x H Q => (∃ i, [x] = [V.int i] ∧ Q (.bl (i != 0)) H) ∨ ∃ k, [x] = [V.bl k] ∧ Q (.bl k) H) (fun d => eP (dBool d)) (kR C) := op1_flat fun F H x dx Q Qd s rx hp hq => by
  cases dx with
  | int i => obtain rfl := RT.int rx; exact .inl ⟨i, rfl, hq _ _ hp (.bl _)⟩
  | bl i => obtain rfl := RT.bl rx; exact .inr ⟨i, rfl, hq _ _ hp (.bl _)⟩
  | _ => exact hp.elim
theorem o_max : Op2 C W (fun x y H Q => ∃ i j, [x, y] = [V.int i, V.int j] ∧ Q (.int (if j > i then j else i)) H) (fun a b => eP (dMax a b)) (kR C) := op2_flat fun F H x y dx dy Q Qd s rx ry hp hq => by
  cases dx with
  | int i => cases dy with
    | int j => obtain rfl := RT.int rx; obtain rfl := RT.int ry; exact ⟨i, j, rfl, hq _ _ hp (.int _)⟩
    | _ => exact hp.elim
  | _ => exact hp.elim
theorem o_min : Op2 C W (fun x y H Q => ∃ i j, [x, y] = [V.int i, V.int j] ∧ Q (.int (if j < i then j else i)) H) (fun a b => eP (dMin a b)) (kR C) := op2_flat fun F H x y dx dy Q Qd s rx ry hp hq => by
  cases dx with
  | int i => cases dy with
    | int j => obtain rfl := RT.int rx; obtain rfl := RT.int ry; exact ⟨i, j, rfl, hq _ _ hp (.int _)⟩
    | _ => exact hp.elim
  | _ => exact hp.elim
theorem o_any : Op1 C W (fun x H Q => rAny C.K [x] H Q) (fun d => eP (dAny d)) (kR C) := op1_flat fun F H x dx Q Qd s rx hp hq => by
  cases dx with
  | lst ds =>
    obtain ⟨bs, e, q⟩ := hp
    obtain ⟨a, xs, rfl, ha, r, _⟩ := RT.lst s rx
    exact ⟨a, bs, rfl, .inl (.inl (by rw [← RpL.bls r e]; exact ha)), hq _ _ q (.bl _)⟩
  | _ => exact hp.elim
theorem o_all : Op1 C W (fun x H Q => rAll C.K [x] H Q) (fun d => eP (dAll d)) (kR C) := op1_flat fun F H x dx Q Qd s rx hp hq => by
  cases dx with
  | lst ds =>
    obtain ⟨bs, e, q⟩ := hp
    obtain ⟨a, xs, rfl, ha, r, _⟩ := RT.lst s rx
    exact ⟨a, bs, rfl, .inl (.inl (by rw [← RpL.bls r e]; exact ha)), hq _ _ q (.bl _)⟩
  | _ => exact hp.elim
/-- list(x), tuple(x) -/
def fList : D → E (List D)
  | .lst ds => ep ds
  | .tup ds => ep ds
  | _ => eStuck
def fTuple : D → E D
  | .lst ds => ep (.tup ds)
  | .tup ds => ep (.tup ds)
  | _ => eStuck
theorem o_list : Op1 C W (fun x H Q => ∃ p ys, [x] = [V.ref p] ∧ (SqL C.K H p ys ∨ SqT C.K H p ys) ∧ ∀ l, H l = none → Q (.ref l) (upd H l (.lst ys))) fList (RO C) := fun σ ρ F H z x dx Qd Xd Q S rx hm hq hx => by
  cases dx with
  | lst ds =>
    obtain ⟨a, xs, rfl, ha, r, _⟩ := RT.lst S.sub rx
    exact ⟨a, xs, rfl, .inl (.inl (.inl ha)), fun p hp => S.newL hp r hm hq⟩
  | tup ds =>
    obtain ⟨a, xs, rfl, ha, r⟩ := RT.tup S.sub rx
    exact ⟨a, xs, rfl, .inr ha, fun p hp => S.newL hp r hm hq⟩
  | _ => exact False.elim hm
theorem o_tuple : Op1 C W (fun x H Q => ∃ p ys, [x] = [V.ref p] ∧ ((SqL C.K H p ys ∧ ∀ l, H l = none → Q (.ref l) (upd H l (.tup ys))) ∨ (SqT C.K H p ys ∧ Q (.ref p) H))) fTuple (kR C) := fun σ ρ F H z x dx Qd Xd Q S rx hm hq hx => by
  cases dx with
  | lst ds =>
    obtain ⟨a, xs, rfl, ha, r, _⟩ := RT.lst S.sub rx
    exact ⟨a, xs, rfl, .inl ⟨.inl (.inl ha), fun p hp => S.newT hp r hm hq⟩⟩
  | tup ds =>
    rcases rx with rx | ⟨_, _, _, _, e, _⟩
    · cases rx with | tup q r =>
      exact ⟨_, _, rfl, .inr ⟨sqtSame S.sub q, S.same (R := kR C) hm (.tup q r) hq⟩⟩
    · cases e
  | _ => exact False.elim hm

/-! ## repr -/
mutual
theorem py_noDict : ∀ d : D, d.py.hasDict = false
  | .non => rfl
  | .bl _ => rfl
  | .int _ => rfl
  | .str _ => rfl
  | .lst xs => pyL_noDict xs
  | .tup xs => pyL_noDict xs
  | .cel => rfl
  | .ins _ _ _ => rfl
  | .dic _ _ => rfl
  | .exn _ _ _ _ => rfl
  | .scr _ => rfl
theorem pyL_noDict : ∀ ds : List D, PyData.hasDictAll (pyL ds) = false
  | [] => rfl
  | d :: r => by
    show (d.py.hasDict || PyData.hasDictAll (pyL r)) = false
    rw [py_noDict d, pyL_noDict r]
    rfl
end
def reprOk (d : D) : Prop := d.isPy = true ∧ d.py.showable = true ∧ d.py.depth ≤ 60 ∧ d.py.shown.length ≤ 16777216
def dRepr : P1
  | .lst ds, Q => reprOk (.lst ds) ∧ Q (.str (D.lst ds).py.shown)
  | .tup ds, Q => reprOk (.tup ds) ∧ Q (.str (D.tup ds).py.shown)
  | .int i, Q => i.natAbs.log2 < 1920 ∧ Q (.str (toString i))
  | _, _ => False
def rRepr (K : PySem.W.Frag) : List V → Hp → VK → Prop := fun xs H Q => (∃ i, xs = [V.int i] ∧ i.natAbs.log2 < 1920 ∧ Q (.str (toString i)) H) ∨
  ∃ (a : Addr) (d : PyData), xs = [V.ref a] ∧ Dp K H (.ref a) d ∧ d.hasDict = false ∧ d.showable = true ∧ d.depth ≤ 60 ∧ d.shown.length ≤ sizeLine ∧ Q (.str d.shown) H
theorem call_reprD (hg : X.A.guards = some []) (hu : X.A.units + 65 < cLine) : CallR X (.builtin "repr") (rRepr X.K) := by
  intro pins s σ H xs us Q I r h
  rcases h with ⟨i, rfl, h1, q⟩ | ⟨a, d, rfl, hd, hn, hs, hp, hz, q⟩
  · exact SkE.call_repr_int pins s σ H _ us Q I r ⟨i, rfl, h1, q⟩
  · cases r with
    | cons ru rn =>
      cases rn
      obtain rfl : _ = Value.ref a := ru
      obtain ⟨as, rd⟩ := Dp.reads I d (.ref a) (.ref a) hd rfl
      exact repr_of_reads' rd hs (PyData.noDict_hsm hn) hg (by omega) (fun _ _ e => e) (fun h' u tk hk => ⟨.str d.shown, H, I.kept (t' := tk) hk, ⟨u, rfl⟩, q⟩) hz
theorem o_repr : Op1 C W (fun x H Q => rRepr C.K [x] H Q) (fun d => eP (dRepr d)) (kR C) := op1_flat fun F H x dx Q Qd s rx hp hq => by
  cases dx with
  | int i => obtain rfl := RT.int rx; exact .inl ⟨i, rfl, hp.1, hq _ _ hp.2 (.str _)⟩
  | lst ds =>
    obtain ⟨⟨h1, h2, h3, h4⟩, q⟩ := hp
    have dp := RT.dp s rx h1
    obtain ⟨a, xs, rfl, _⟩ := RT.lst s rx
    exact .inr ⟨a, _, rfl, dp, py_noDict _, h2, h3, line_le h4, hq _ _ q (.str _)⟩
  | tup ds =>
    obtain ⟨⟨h1, h2, h3, h4⟩, q⟩ := hp
    have dp := RT.dp s rx h1
    obtain ⟨a, xs, rfl, _⟩ := RT.tup s rx
    exact .inr ⟨a, _, rfl, dp, py_noDict _, h2, h3, line_le h4, hq _ _ q (.str _)⟩
  | _ => exact hp.elim

/-! ### the calls by name -/
section
variable {p : Pos}
theorem xe_len (hK : X.K = C.K) (hg : Gl X "len") (hm : X.mg "len" = none) (ha : XP X C W a ma) (h1 : S1 X a := by rfl) : XE X C W (.Call (.Name "len" p) [a] [] pos) (eb ma fun d => eP (dLen d)) := xe_b1 call_len (by rw [hK]; exact o_len) ha hg hm rfl (by decide) (by decide) h1
theorem xe_abs (hg : Gl X "abs") (hm : X.mg "abs" = none) (ha : XP X C W a ma) (h1 : S1 X a := by rfl) : XE X C W (.Call (.Name "abs" p) [a] [] pos) (eb ma fun d => eP (dAbs d)) := xe_b1 call_abs o_abs ha hg hm rfl (by decide) (by decide) h1
theorem xe_int1 (hg : Gl X "int") (hm : X.mg "int" = none) (ha : XP X C W a ma) (h1 : S1 X a := by rfl) : XE X C W (.Call (.Name "int" p) [a] [] pos) (eb ma fun d => eP (dInt d)) := xe_t1 call_int1 o_int1 ha hg hm rfl (by decide) (by decide) h1
theorem xe_bool1 (hg : Gl X "bool") (hm : X.mg "bool" = none) (ha : XP X C W a ma) (h1 : S1 X a := by rfl) : XE X C W (.Call (.Name "bool" p) [a] [] pos) (eb ma fun d => eP (dBool d)) := xe_t1 call_bool1 o_bool1 ha hg hm rfl (by decide) (by decide) h1
theorem xe_any (kx : Kx X C W k) (hg : Gl X "any") (hm : X.mg "any" = none) (ha : XP X C W a ma) (h1 : S1 X a := by rfl) : XE X C W (.Call (.Name "any" p) [a] [] pos) (eb ma fun d => eP (dAny d)) := xe_b1 (cr_any kx.calm) (by rw [kx.hK]; exact o_any) ha hg hm rfl (by decide) (by decide) h1
theorem xe_all (kx : Kx X C W k) (hg : Gl X "all") (hm : X.mg "all" = none) (ha : XP X C W a ma) (h1 : S1 X a := by rfl) : XE X C W (.Call (.Name "all" p) [a] [] pos) (eb ma fun d => eP (dAll d)) := xe_b1 (cr_all kx.calm) (by rw [kx.hK]; exact o_all) ha hg hm rfl (by decide) (by decide) h1
theorem xe_repr (kx : Kx X C W k) (hg : Gl X "repr") (hm : X.mg "repr" = none) (ha : XP X C W a ma) (h1 : S1 X a := by rfl) : XE X C W (.Call (.Name "repr" p) [a] [] pos) (eb ma fun d => eP (dRepr d)) := xe_b1 (call_reprD kx.gu kx.hu) (by rw [kx.hK]; exact o_repr) ha hg hm rfl (by decide) (by decide) h1
theorem xo_list (kx : Kx X C W k) (hg : Gl X "list") (hm : X.mg "list" = none) (ha : XP X C W a ma) (h1 : S1 X a := by rfl) : XO X C W (.Call (.Name "list" p) [a] [] pos) (eb ma fList) := xo_t1 call_list_of (by rw [kx.hK]; exact o_list) ha hg hm rfl (by decide) (by decide) h1
theorem xe_tuple (kx : Kx X C W k) (hg : Gl X "tuple") (hm : X.mg "tuple" = none) (ha : XP X C W a ma) (h1 : S1 X a := by rfl) : XE X C W (.Call (.Name "tuple" p) [a] [] pos) (eb ma fTuple) := xe_t1 call_tuple_of (by rw [kx.hK]; exact o_tuple) ha hg hm rfl (by decide) (by decide) h1
theorem xe_max2 (kx : Kx X C W k) (hg : Gl X "max") (hm : X.mg "max" = none) (ha : XP X C W a ma) (hb : XP X C W b mb) (hp : starEach (a :: [b]) X.env = (false, eval a X.env) :: starEach [b] X.env := by rfl) (hpl : (backTo pos (starEach [b] X.env)).any (·.1) = false := by rfl) (h1 : S1 X b := by rfl) :
    XE X C W (.Call (.Name "max" p) [a, b] [] pos) (eb ma fun x => eb mb fun y => eP (dMax x y)) := xe_b2 (call_max2 kx.calm) o_max ha hb hg hm rfl (by decide) (by decide) hp hpl h1
theorem xe_min2 (kx : Kx X C W k) (hg : Gl X "min") (hm : X.mg "min" = none) (ha : XP X C W a ma) (hb : XP X C W b mb) (hp : starEach (a :: [b]) X.env = (false, eval a X.env) :: starEach [b] X.env := by rfl) (hpl : (backTo pos (starEach [b] X.env)).any (·.1) = false := by rfl) (h1 : S1 X b := by rfl) :
    XE X C W (.Call (.Name "min" p) [a, b] [] pos) (eb ma fun x => eb mb fun y => eP (dMin x y)) := xe_b2 (call_min2 kx.calm) o_min ha hb hg hm rfl (by decide) (by decide) hp hpl h1
end
end
end DL

namespace DL
open PySem PySem.Spec PyProof.Rows L2

/-! ## what a loop walks -/
structure IterOk (K : PySem.W.Frag) (mg : Str → Option Value) (pa : Option Addr) (J : It) (ds : List D) (F : Hp) : Prop where
  stp : ∀ (C : CC) (σ : L2.St) (ρ : Rho) (F2 H : Hp) (z : Int), C.K = K → C.mg = mg → C.pa = pa → StOk C σ ρ F2 H z → Same F F2 → ∀ i, ds[i]? = none → J.stop i H
  go : ∀ (C : CC) (σ : L2.St) (ρ : Rho) (F2 H : Hp) (z : Int), C.K = K → C.mg = mg → C.pa = pa → StOk C σ ρ F2 H z → Same F F2 → ∀ i d, ds[i]? = some d → J.go i H ∧
    ∀ x H', J.yld i H x H' → ∃ F3, Same F2 F3 ∧ StOk C σ ρ F3 H' z ∧ Keep C.pa H H' ∧ C.R F3 x d
def DenI (C : CC) (W : WX) (t : TI) (m : E (List D)) : Prop :=
  ∀ (σ : L2.St) (ρ : Rho) (F H : Hp) (z : Int) (Qd : List D → Rho → Int → Prop) (Xd : Er → Rho → Int → Prop) (R : It → Hp → Prop), StOk C σ ρ F H z → m ρ Qd Xd z →
    (∀ ds ρ' z' J F' H', Qd ds ρ' z' → StOk C σ ρ' F' H' z' → Same F F' → Keep C.pa H H' → Ole ρ' ρ → IterOk C.K C.mg C.pa J ds F' → R J H') →
    (∀ e ρ' z' cls dd F' H', Xd e ρ' z' → StOk C σ ρ' F' H' z' → Same F F' → ExR C F' H' e cls dd → W cls dd σ H') → t σ H R
structure XI (X : Cx) (C : CC) (W : WX) (tg e : Expr) (m : E (List D)) : Prop where
  ex : ∃ t, PI X tg e t ∧ DenI C W t m
section
variable {K : PySem.W.Frag} {mg : Str → Option Value} {pa : Option Addr} {F : Hp}
theorem itl_ok {a : Addr} {xs : List V} {ds : List D} (h : F a = some (.lst xs)) (r : RpL K mg pa F xs ds) : IterOk K mg pa (Itl K a) ds F := by
  have hl := RpL.length r
  constructor
  · intro C σ ρ F2 H z eK em ep S ff i hi
    refine ⟨xs, .inl (.inl (S.sub _ _ (ff _ _ h))), ?_⟩
    rw [List.getElem?_eq_none_iff] at hi
    omega
  · intro C σ ρ F2 H z eK em ep S ff i d hi
    obtain ⟨v, e1, r1⟩ := RpL.get r hi
    have sq : SqL K H a xs := .inl (.inl (S.sub _ _ (ff _ _ h)))
    refine ⟨⟨xs, v, sq, e1⟩, fun x H' y => ?_⟩
    obtain ⟨rfl, y⟩ := y
    have e2 := y xs sq
    rw [e1] at e2
    cases e2
    subst eK em ep
    exact ⟨F2, Same.refl F2, S, Keep.refl, Rp.mono ff r1⟩
theorem itt_ok {a : Addr} {xs : List V} {ds : List D} (h : SqT K F a xs) (r : RpL K mg pa F xs ds) : IterOk K mg pa (Itt K a) ds F := by
  have hl := RpL.length r
  constructor
  · intro C σ ρ F2 H z eK em ep S ff i hi
    refine ⟨xs, sqtSame S.sub (sqtSame ff h), ?_⟩
    rw [List.getElem?_eq_none_iff] at hi
    omega
  · intro C σ ρ F2 H z eK em ep S ff i d hi
    obtain ⟨v, e1, r1⟩ := RpL.get r hi
    have sq : SqT K H a xs := sqtSame S.sub (sqtSame ff h)
    refine ⟨⟨xs, v, sq, e1⟩, fun x H' y => ?_⟩
    obtain ⟨rfl, y⟩ := y
    have e2 := y xs sq
    rw [e1] at e2
    cases e2
    subst eK em ep
    exact ⟨F2, Same.refl F2, S, Keep.refl, Rp.mono ff r1⟩
def rngD (lo : Int) : Nat → List D
  | 0 => []
  | n + 1 => .int lo :: rngD (lo + 1) n
theorem rngD_get : ∀ (n : Nat) (lo : Int) (i : Nat), (rngD lo n)[i]? = if i < n then some (.int (lo + i)) else none
  | 0, lo, i => by simp [rngD]
  | n + 1, lo, 0 => by simp [rngD]
  | n + 1, lo, i + 1 => by
    show (rngD (lo + 1) n)[i]? = _
    rw [rngD_get n (lo + 1) i]
    by_cases h : i < n
    · rw [if_pos h, if_pos (by omega)]
      congr 2
      omega
    · rw [if_neg h, if_neg (by omega)]
theorem itr_ok {lo : Int} {n : Nat} : IterOk K mg pa (Itr lo n) (rngD lo n) F := by
  constructor
  · intro C σ ρ F2 H z eK em ep S ff i hi
    rw [rngD_get] at hi
    split at hi
    · cases hi
    · show n ≤ i
      omega
  · intro C σ ρ F2 H z eK em ep S ff i d hi
    rw [rngD_get] at hi
    split at hi
    · rename_i hlt
      cases hi
      refine ⟨hlt, fun x H' y => ?_⟩
      obtain ⟨rfl, rfl⟩ := y
      exact ⟨F2, Same.refl F2, S, Keep.refl, .int _⟩
    · cases hi
def enumD : Nat → List D → List D
  | _, [] => []
  | i, d :: r => .tup [.int i, d] :: enumD (i + 1) r
theorem enumD_get : ∀ (ds : List D) (k i : Nat), (enumD k ds)[i]? = (ds[i]?).map fun d => .tup [.int (k + i : Nat), d]
  | [], k, i => by simp [enumD]
  | d :: r, k, 0 => by simp [enumD]
  | d :: r, k, i + 1 => by
    show (enumD (k + 1) r)[i]? = _
    rw [enumD_get r (k + 1) i]
    have e : k + 1 + i = k + (i + 1) := by omega
    rw [e]
    rfl
theorem StOk.newTup {C : CC} {σ : L2.St} {ρ : Rho} {F H : Hp} {z : Int} {p : Addr} {xs : List V} {ds : List D} (S : StOk C σ ρ F H z) (h : H p = none) (r : C.RL F xs ds) :
    ∃ F3, Same F F3 ∧ StOk C σ ρ F3 (upd H p (.tup xs)) z ∧ Keep C.pa H (upd H p (.tup xs)) ∧ C.R F3 (.ref p) (.tup ds) :=
  ⟨_, Same.new (S.sub.free h), S.newF h, Keep.new h, .tup (.inl (.inl upd_same)) (RpL.mono (Same.new (S.sub.free h)) r)⟩
theorem ite_ok {a : Addr} {xs : List V} {ds : List D} (h : F a = some (.lst xs)) (r : RpL K mg pa F xs ds) : IterOk K mg pa (Ite K a) (enumD 0 ds) F := by
  have hl := RpL.length r
  constructor
  · intro C σ ρ F2 H z eK em ep S ff i hi
    refine ⟨xs, .inl (.inl (S.sub _ _ (ff _ _ h))), ?_⟩
    rw [enumD_get, Option.map_eq_none_iff, List.getElem?_eq_none_iff] at hi
    omega
  · intro C σ ρ F2 H z eK em ep S ff i d hi
    rw [enumD_get, Option.map_eq_some_iff] at hi
    obtain ⟨d0, hi, rfl⟩ := hi
    obtain ⟨v, e1, r1⟩ := RpL.get r hi
    have sq : SqL K H a xs := .inl (.inl (S.sub _ _ (ff _ _ h)))
    refine ⟨⟨xs, v, sq, e1⟩, fun x H' y => ?_⟩
    obtain ⟨T, u, rfl, hT, rfl, y⟩ := y
    have e2 := y xs sq
    rw [e1] at e2
    cases e2
    subst eK em ep
    have e3 : (0 + i : Nat) = i := by omega
    rw [e3]
    exact S.newTup hT (.cons (.int _) (.cons (Rp.mono ff r1) .nil))
def zipD : List D → List D → List D
  | a :: r, b :: q => .tup [a, b] :: zipD r q
  | _, _ => []
theorem zipD_none : ∀ (as bs : List D) (i : Nat), (zipD as bs)[i]? = none → as.length ≤ i ∨ bs.length ≤ i
  | [], bs, i, _ => .inl (Nat.zero_le _)
  | _ :: _, [], i, _ => .inr (Nat.zero_le _)
  | a :: as, b :: bs, 0, h => by simp [zipD] at h
  | a :: as, b :: bs, i + 1, h => by
    have := zipD_none as bs i (by simpa [zipD] using h)
    simp only [List.length_cons]
    omega
theorem zipD_some : ∀ (as bs : List D) (i : Nat) (d : D), (zipD as bs)[i]? = some d → ∃ a b, as[i]? = some a ∧ bs[i]? = some b ∧ d = .tup [a, b]
  | [], bs, i, d, h => by simp [zipD] at h
  | _ :: _, [], i, d, h => by simp [zipD] at h
  | a :: as, b :: bs, 0, d, h => by
    simp [zipD] at h
    exact ⟨a, b, rfl, rfl, h.symm⟩
  | a :: as, b :: bs, i + 1, d, h => by simpa using zipD_some as bs i d (by simpa [zipD] using h)
theorem itz_ok {a b : Addr} {xs ys : List V} {ds es : List D} (h : F a = some (.lst xs)) (r : RpL K mg pa F xs ds) (h2 : F b = some (.lst ys)) (r2 : RpL K mg pa F ys es) : IterOk K mg pa (Itz K a b) (zipD ds es) F := by
  have hl := RpL.length r
  have hl2 := RpL.length r2
  constructor
  · intro C σ ρ F2 H z eK em ep S ff i hi
    refine ⟨xs, ys, .inl (.inl (S.sub _ _ (ff _ _ h))), .inl (.inl (S.sub _ _ (ff _ _ h2))), ?_⟩
    rcases zipD_none _ _ _ hi with q | q
    · left; omega
    · right; omega
  · intro C σ ρ F2 H z eK em ep S ff i d hi
    obtain ⟨d1, d2, hi1, hi2, rfl⟩ := zipD_some _ _ _ _ hi
    obtain ⟨v, e1, r1⟩ := RpL.get r hi1
    obtain ⟨w, f1, s1⟩ := RpL.get r2 hi2
    have sq : SqL K H a xs := .inl (.inl (S.sub _ _ (ff _ _ h)))
    have sq2 : SqL K H b ys := .inl (.inl (S.sub _ _ (ff _ _ h2)))
    refine ⟨⟨xs, ys, v, w, sq, sq2, e1, f1⟩, fun x H' y => ?_⟩
    obtain ⟨T, u, u2, rfl, hT, rfl, y, y2⟩ := y
    have e2 := y xs sq
    rw [e1] at e2
    cases e2
    have e3 := y2 ys sq2
    rw [f1] at e3
    cases e3
    subst eK em ep
    exact S.newTup hT (.cons (Rp.mono ff r1) (.cons (Rp.mono ff s1) .nil))
end

section
variable {X : Cx} {C : CC} {W : WX} {e a b c tg iter l : Expr} {es body : List Stmt} {m ma mb mc : E D} {pos p tpos : Pos} {k : Nat} {elts : List Expr} {kk : Nat}
/-! ### lists, tuples -/
def iSeq (K : PySem.W.Frag) (tl : TE) : TI := fun σ H R => tl σ H fun x H1 => ∃ a, x = V.ref a ∧ (((∃ xs, SqL K H1 a xs) ∧ R (Itl K a) H1) ∨ ((∃ xs, SqT K H1 a xs) ∧ R (Itt K a) H1))
theorem pi_seq {tl : TE} (hl : PE X l tl) : PI X tg l (iSeq X.K tl) := by
  constructor
  intro pins s σ H R I h
  have step := hl.run pins s σ H _ I h
  refine thn step ?_
  rintro v s1 ⟨x, H1, I1, r1, a, ex, q⟩
  subst ex
  obtain rfl : v = Value.ref a := r1
  rcases q with ⟨⟨xs, hs⟩, q⟩ | ⟨⟨xs, hs⟩, q⟩
  · obtain ⟨its, rv, p, _⟩ := I1.list hs
    apply wpAny_pyIter_list p.isList
    have ig := I1.kept (t' := s1.toks) (fun b o e => Heap.get?_push_of_some { cls := .type "list_iterator", data := .fields #[.ref a, .int 0 0] } e)
    refine ⟨_, [s1.heap.objs.size], _, _, H1, rfl, ig, turn_list a _, ?_, ?_, q⟩
    · exact ⟨_, Heap.get?_push_size _ rfl, rfl, rfl⟩
    · intro b hb
      rw [List.mem_singleton] at hb
      rw [hb]
      exact I1.fpOk (Nat.le_refl _) I1.fresh
  · obtain ⟨its, rv, p, _⟩ := I1.tuple hs
    apply wpAny_pyIter_tuple (items := its.toArray) p
    have ig := I1.kept (t' := s1.toks) (fun b o e => Heap.get?_push_of_some { cls := .type "tuple_iterator", data := .fields #[.ref a, .int 0 0] } e)
    refine ⟨_, [s1.heap.objs.size], _, _, H1, rfl, ig, turn_tuple a _, ?_, ?_, q⟩
    · exact ⟨_, Heap.get?_push_size _ rfl, rfl, rfl⟩
    · intro b hb
      rw [List.mem_singleton] at hb
      rw [hb]
      exact I1.fpOk (Nat.le_refl _) I1.fresh
def fSeqI : D → E (List D)
  | .lst ds => ep ds
  | .tup ds => ep ds
  | _ => eStuck
theorem xi_seq (hK : X.K = C.K) (h : XE X C W l m) : XI X C W tg l (eb m fSeqI) := by
  obtain ⟨t, h1, h2⟩ := h.ex
  refine ⟨_, pi_seq h1, fun σ ρ F H z Qd Xd R S hm hq hx => h2 σ ρ F H z _ Xd _ S hm (fun d ρ1 z1 v F1 H1 q1 S1 ff1 k1 o1 r1 => ?_) hx⟩
  rw [hK]
  cases d with
  | lst ds =>
    cases r1 with | lst n q r =>
    exact ⟨_, rfl, .inl ⟨⟨_, .inl (.inl (S1.sub _ _ q))⟩, hq _ _ _ _ _ _ q1 S1 ff1 k1 o1 (itl_ok q r)⟩⟩
  | tup ds =>
    cases r1 with | tup q r =>
    exact ⟨_, rfl, .inr ⟨⟨_, sqtSame S1.sub q⟩, hq _ _ _ _ _ _ q1 S1 ff1 k1 o1 (itt_ok q r)⟩⟩
  | _ => exact False.elim q1
/-! ### range -/
def fRng1 : List D → E (List D)
  | [.int j] => fun ρ Q _ z => (-(2 ^ 62) ≤ j ∧ j < 2 ^ 62) ∧ Q (rngD 0 j.toNat) ρ z
  | _ => eStuck
def fRng2 : List D → E (List D)
  | [.int i, .int j] => fun ρ Q _ z => (-(2 ^ 62) ≤ i ∧ i < 2 ^ 62 ∧ -(2 ^ 62) ≤ j ∧ j < 2 ^ 62) ∧ Q (rngD i (j - i).toNat) ρ z
  | _ => eStuck
theorem xi_range1 {ms : E (List D)} (ha : XA X C W [a] ms) (hg : Gl X "range") (hm : X.mg "range" = none) (hs : starEach [a] X.env = [(false, eval a X.env)] := by rfl) : XI X C W tg (.Call (.Name "range" p) [a] [] pos) (eb ms fRng1) := by
  obtain ⟨t, h1, h2⟩ := ha.ex
  refine ⟨_, pi_range1 hg hm h1 hs, fun σ ρ F H z Qd Xd R S hm hq hx => h2 σ ρ F H z _ Xd _ S hm (fun ds ρ1 z1 vs F1 H1 q1 S1 ff1 k1 o1 r1 => ?_) hx⟩
  unfold fRng1 at q1
  split at q1
  · cases r1 with | cons r rr =>
    cases rr
    cases r
    exact ⟨_, rfl, q1.1.1, q1.1.2, hq _ _ _ _ _ _ q1.2 S1 ff1 k1 o1 itr_ok⟩
  · exact False.elim q1
theorem xi_range2 {ms : E (List D)} (ha : XA X C W [a, b] ms) (hg : Gl X "range") (hm : X.mg "range" = none) (hs : starEach [a, b] X.env = [(false, eval a X.env), (false, eval b X.env)] := by rfl) (hs2 : starEach [b] X.env = [(false, eval b X.env)] := by rfl) :
    XI X C W tg (.Call (.Name "range" p) [a, b] [] pos) (eb ms fRng2) := by
  obtain ⟨t, h1, h2⟩ := ha.ex
  refine ⟨_, pi_range2 hg hm h1 hs hs2, fun σ ρ F H z Qd Xd R S hm hq hx => h2 σ ρ F H z _ Xd _ S hm (fun ds ρ1 z1 vs F1 H1 q1 S1 ff1 k1 o1 r1 => ?_) hx⟩
  unfold fRng2 at q1
  split at q1
  · cases r1 with | cons r rr =>
    cases rr with | cons r' rr =>
    cases rr
    cases r
    cases r'
    exact ⟨_, _, rfl, q1.1, hq _ _ _ _ _ _ q1.2 S1 ff1 k1 o1 itr_ok⟩
  · exact False.elim q1
/-! ### enumerate, zip -/
def fEnum : List D → E (List D)
  | [.lst ds] => ep (enumD 0 ds)
  | _ => eStuck
def fZip : List D → E (List D)
  | [.lst ds, .lst es] => ep (zipD ds es)
  | _ => eStuck
theorem xi_enum {ms : E (List D)} (hK : X.K = C.K) (ha : XA X C W [e] ms) (hg : Gl X "enumerate") (hm : X.mg "enumerate" = none) (hs : starEach [e] X.env = [(false, eval e X.env)] := by rfl) :
    XI X C W (.Tuple elts kk tpos) (.Call (.Name "enumerate" p) [e] [] pos) (eb ms fEnum) := by
  obtain ⟨t, h1, h2⟩ := ha.ex
  refine ⟨_, pi_enum hg hm h1 hs, fun σ ρ F H z Qd Xd R S hm hq hx => h2 σ ρ F H z _ Xd _ S hm (fun ds ρ1 z1 vs F1 H1 q1 S1 ff1 k1 o1 r1 => ?_) hx⟩
  unfold fEnum at q1
  rw [hK]
  split at q1
  · cases r1 with | cons r rr =>
    cases rr
    cases r with | lst n q r =>
    exact ⟨_, _, rfl, .inl (.inl (S1.sub _ _ q)), hq _ _ _ _ _ _ q1 S1 ff1 k1 o1 (ite_ok q r)⟩
  · exact False.elim q1
theorem xi_zip {ms : E (List D)} (hK : X.K = C.K) (ha : XA X C W [a, b] ms) (hg : Gl X "zip") (hm : X.mg "zip" = none) (hs : starEach [a, b] X.env = (false, eval a X.env) :: starEach [b] X.env := by rfl) (hpl : (backTo pos (starEach [b] X.env)).any (·.1) = false := by rfl) :
    XI X C W (.Tuple elts kk tpos) (.Call (.Name "zip" p) [a, b] [] pos) (eb ms fZip) := by
  obtain ⟨t, h1, h2⟩ := ha.ex
  refine ⟨_, pi_zip hg hm h1 hs hpl, fun σ ρ F H z Qd Xd R S hm hq hx => h2 σ ρ F H z _ Xd _ S hm (fun ds ρ1 z1 vs F1 H1 q1 S1 ff1 k1 o1 r1 => ?_) hx⟩
  unfold fZip at q1
  rw [hK]
  split at q1
  · cases r1 with | cons r rr =>
    cases rr with | cons r' rr =>
    cases rr
    cases r with | lst n q r =>
    cases r' with | lst n' q' r' =>
    exact ⟨_, _, _, _, rfl, .inl (.inl (S1.sub _ _ q)), .inl (.inl (S1.sub _ _ q')), hq _ _ _ _ _ _ q1 S1 ff1 k1 o1 (itz_ok q r q' r')⟩
  · exact False.elim q1

/-! ## for, while -/
def forK (rest : E Fl) : Fl → E Fl
  | .nx => rest
  | .ct => rest
  | .bk => ep .nx
  | .ret d => ep (.ret d)
  | .retO ds => ep (.retO ds)
def forL (tg : Tg) (mb : E Fl) : List D → E Fl
  | [] => ep .nx
  | d :: ds => fun ρ Q X z => tg d ρ fun ρ1 => mb ρ1 (fun fl ρ2 z2 => forK (forL tg mb ds) fl ρ2 Q X z2) X z
def sFor (mi : E (List D)) (tg : Tg) (mb : E Fl) : E Fl := eb mi fun ds => forL tg mb ds
theorem xs_for {mi : E (List D)} {mbody : E Fl} {is : List Nat} {g : Tg} {body : List Stmt} (kx : Kx X C W k) (hi : XI X C W tg iter mi) (hg : XG X C tg is g) (hb : XSs X C W body mbody)
    (hs : ∀ x, foldedSetIterable iter X.env x = pure x := by intro _; rfl) : XS X C W (.For tg iter body [] pos) (sFor mi g mbody) := by
  obtain ⟨wi, i1, i2⟩ := hi.ex
  obtain ⟨gg, g1, g2⟩ := hg.ex
  obtain ⟨tb, b1, b2⟩ := hb.ex
  refine ⟨_, ps_for kx.po kx.calm i1 g1 b1 hs, fun σ ρ F H z Qd Xd Dn S hm hq hx => ?_⟩
  refine i2 σ ρ F H z _ Xd _ S hm (fun ds ρ1 z1 J F1 H1 q1 S1 ff1 k1 o1 it => ?_) (fun e ρ' z' cls dd F' H' q S' ff r => hx e ρ' z' cls dd σ F' H' q S' ff r)
  refine ⟨fun i m σ' H' => m = ds.length - i ∧ i ≤ ds.length ∧ ∃ ρ' F' z', StOk C σ' ρ' F' H' z' ∧ Same F1 F' ∧ forL g mbody (ds.drop i) ρ' Qd Xd z', ⟨ds.length, by simp, Nat.zero_le _, ρ1, F1, z1, S1, Same.refl _, q1⟩, ?_⟩
  rintro i m σ2 H2 ⟨rfl, hi, ρ2, F2, z2, S2, ff2, q2⟩
  cases hd : ds[i]? with
  | none =>
    have hl : ds.length ≤ i := List.getElem?_eq_none_iff.mp hd
    rw [List.drop_eq_nil_of_le hl] at q2
    exact .inl ⟨it.stp C σ2 ρ2 F2 H2 z2 rfl rfl rfl S2 ff2 i hd, hq _ _ _ _ _ q2 (ff1.trans ff2) σ2 S2⟩
  | some d =>
    obtain ⟨hlt, hget⟩ := List.getElem?_eq_some_iff.mp hd
    rw [List.drop_eq_getElem_cons hlt, hget] at q2
    obtain ⟨go, yl⟩ := it.go C σ2 ρ2 F2 H2 z2 rfl rfl rfl S2 ff2 i d hd
    refine .inr ⟨go, fun σ' H' => ∃ ρ' F' z', StOk C σ' ρ' F' H' z' ∧ Same F1 F' ∧ forL g mbody (ds.drop (i + 1)) ρ' Qd Xd z', fun σ' H' w => ⟨_, by omega, rfl, hlt, w⟩, fun x H3 y => ?_⟩
    obtain ⟨F3, ff3, S3, k3, r3⟩ := yl x H3 y
    refine g2 σ2 ρ2 F3 H3 z2 x d _ _ S3 r3 q2 (fun σ4 ρ4 q4 S4 _ _ => ?_)
    refine b2 σ4 ρ4 F3 H3 z2 _ Xd _ S4 q4 (fun fl ρ5 z5 F5 H5 q5 ff5 => ?_) (fun e ρ' z' cls dd σ' F' H' q S' ff r => hx e ρ' z' cls dd σ' F' H' q S' (((ff1.trans ff2).trans ff3).trans ff) r)
    have ffa : Same F F5 := ((ff1.trans ff2).trans ff3).trans ff5
    cases fl with
    | nx => exact fun σ5 S5 => ⟨ρ5, F5, z5, S5, (ff2.trans ff3).trans ff5, q5⟩
    | ct => exact fun σ5 S5 => ⟨ρ5, F5, z5, S5, (ff2.trans ff3).trans ff5, q5⟩
    | bk => exact fun σ5 S5 => hq .nx ρ5 z5 F5 H5 q5 ffa σ5 S5
    | ret d => exact hq (.ret d) ρ5 z5 F5 H5 q5 ffa
    | retO d => exact hq (.retO d) ρ5 z5 F5 H5 q5 ffa
def whL (mt : E Bool) (mb : E Fl) : Nat → E Fl
  | 0 => eStuck
  | n + 1 => eb mt fun t => if t = true then (fun ρ Q X z => mb ρ (fun fl ρ2 z2 => forK (whL mt mb n) fl ρ2 Q X z2) X z) else ep .nx
def sWhile (mt : E Bool) (mb : E Fl) : E Fl := fun ρ Q X z => ∃ n, whL mt mb n ρ Q X z
theorem xs_while {mt : E Bool} {mbody : E Fl} {body : List Stmt} (kx : Kx X C W k) (hc : XT X C W c mt) (hb : XSs X C W body mbody) : XS X C W (.While c body [] pos) (sWhile mt mbody) := by
  obtain ⟨tc, c1, c2⟩ := hc.ex
  obtain ⟨tb, b1, b2⟩ := hb.ex
  refine ⟨_, ps_while kx.po c1 b1, fun σ ρ F H z Qd Xd Dn S hm hq hx => ?_⟩
  obtain ⟨n, hn⟩ := hm
  refine ⟨fun m σ' H' => ∃ ρ' F' z', StOk C σ' ρ' F' H' z' ∧ Same F F' ∧ whL mt mbody m ρ' Qd Xd z', ⟨n, ρ, F, z, S, Same.refl _, hn⟩, ?_⟩
  rintro m σ1 H1 ⟨ρ1, F1, z1, S1, ff1, q1⟩
  cases m with
  | zero => exact False.elim q1
  | succ m =>
    refine c2 σ1 ρ1 F1 H1 z1 _ Xd _ S1 q1 (fun bb ρ2 z2 b F2 H2 q2 S2 ff2 k2 o2 r2 => ?_) (fun e ρ' z' cls dd F' H' q S' ff r => hx e ρ' z' cls dd σ1 F' H' q S' (ff1.trans ff) r)
    obtain rfl : b = bb := r2
    cases b with
    | false => exact hq .nx ρ2 z2 F2 H2 q2 (ff1.trans ff2) σ1 S2
    | true =>
      refine ⟨fun σ' H' => ∃ ρ' F' z', StOk C σ' ρ' F' H' z' ∧ Same F F' ∧ whL mt mbody m ρ' Qd Xd z', fun σ' H' w => ⟨m, Nat.lt_succ_self m, w⟩, ?_⟩
      refine b2 σ1 ρ2 F2 H2 z2 _ Xd _ S2 q2 (fun fl ρ5 z5 F5 H5 q5 ff5 => ?_) (fun e ρ' z' cls dd σ' F' H' q S' ff r => hx e ρ' z' cls dd σ' F' H' q S' ((ff1.trans ff2).trans ff) r)
      have ffa : Same F F5 := (ff1.trans ff2).trans ff5
      cases fl with
      | nx => exact fun σ5 S5 => ⟨ρ5, F5, z5, S5, ffa, q5⟩
      | ct => exact fun σ5 S5 => ⟨ρ5, F5, z5, S5, ffa, q5⟩
      | bk => exact fun σ5 S5 => hq .nx ρ5 z5 F5 H5 q5 ffa σ5 S5
      | ret d => exact hq (.ret d) ρ5 z5 F5 H5 q5 ffa
      | retO d => exact hq (.retO d) ρ5 z5 F5 H5 q5 ffa
end
end DL

namespace DL
open PySem PySem.Spec PyProof.Rows L2

/-! ## comprehensions -/
abbrev CC.hide (C : CC) (a : Addr) : CC := { C with hid := a :: C.hid }
abbrev wN : WX := fun _ _ _ _ => False
def wipeR (ρ : Rho) : List Nat → Rho
  | [] => ρ
  | v :: vs => (wipeR ρ vs).set v .no
theorem wipeR_length (ρ : Rho) : ∀ vs, (wipeR ρ vs).length = ρ.length
  | [] => rfl
  | v :: vs => by unfold wipeR; rw [List.length_set, wipeR_length ρ vs]
theorem wipeR_some {ρ : Rho} {i : Nat} {s : Sl} : ∀ {vs : List Nat}, (wipeR ρ vs)[i]? = some s → s = .no ∨ (i ∉ vs ∧ ρ[i]? = some s)
  | [], h => .inr ⟨by simp, h⟩
  | v :: vs, h => by
    unfold wipeR at h
    rcases get_set h with ⟨_, h2, _⟩ | ⟨h1, h2⟩
    · exact .inl h2
    · rcases wipeR_some h2 with h3 | ⟨h3, h4⟩
      · exact .inl h3
      · exact .inr ⟨by simp only [List.mem_cons, not_or]; exact ⟨h1, h3⟩, h4⟩
theorem wipe_in {σ : L2.St} {i : Nat} : ∀ {vs : List Nat}, i ∈ vs → (wipe σ vs)[i]? = if i < σ.length then some none else none
  | v :: vs, h => by
    unfold wipe
    by_cases hv : v = i
    · subst hv
      by_cases hl : v < σ.length
      · rw [if_pos hl, List.getElem?_set_self (by rw [wipe_length]; exact hl)]
      · rw [if_neg hl, List.getElem?_eq_none (by rw [List.length_set, wipe_length]; omega)]
    · rw [List.getElem?_set_ne hv]
      exact wipe_in ((List.mem_cons.mp h).resolve_left fun e => hv e.symm)
theorem wipe_eq {σ σ' : L2.St} {vs is : List Nat} (hs : ∀ i ∈ is, i ∈ vs) (h : ∀ j, j ∉ is → σ'[j]? = (wipe σ vs)[j]?) (hl : σ'.length = (wipe σ vs).length) : wipe σ' vs = wipe σ vs := by
  apply List.ext_getElem?
  intro i
  by_cases hi : i ∈ vs
  · rw [wipe_in hi, wipe_in hi, hl, wipe_length]
  · rw [wipe_out hi, h i fun m => hi (hs i m)]
section
variable {C : CC} {σ σ' : L2.St} {ρ ρ' : Rho} {F H : Hp} {z : Int} {p : Addr} {vs : List Nat}
theorem StOk.slots (S : StOk C σ ρ F H z) (hl : σ'.length = ρ'.length) (h : ∀ (i : Nat) s, ρ'[i]? = some s → s = .no ∨ (ρ[i]? = some s ∧ σ'[i]? = σ[i]?)) : StOk C σ' ρ' F H z := by
  refine ⟨S.sub, S.f0, S.h0, S.nw, hl, fun i v s e1 e2 => ?_, fun i j x y a e1 e2 e3 e4 => ?_, S.pz, S.hd⟩
  · rcases h i s e2 with e | ⟨e, e'⟩
    · subst e; cases v <;> trivial
    · exact S.env i v s (by rw [← e']; exact e1) e
  · rcases h i _ e1 with q | ⟨q, q'⟩
    · cases q
    · rcases h j _ e2 with r | ⟨r, r'⟩
      · cases r
      · exact S.apart i j x y a q r (by rw [← q']; exact e3) (by rw [← r']; exact e4)
theorem StOk.wipe (S : StOk C σ ρ F H z) : StOk C (L2.wipe σ vs) (wipeR ρ vs) F H z :=
  S.slots (by rw [wipe_length, wipeR_length]; exact S.len) fun i s e => by
    rcases wipeR_some e with h | ⟨h1, h2⟩
    · exact .inl h
    · exact .inr ⟨h2, wipe_out h1⟩
theorem StOk.hideN (S : StOk C σ ρ F H z) (h : H p = none) : StOk (C.hide p) σ ρ F (upd H p (.lst [])) z := by
  have S' := S.newH (o := .lst []) h
  refine ⟨S'.sub, S'.f0, S'.h0, S'.nw, S'.len, fun i v s e1 e2 => ?_, S'.apart, S'.pz, fun b hb => ?_⟩
  · have q := S.env i v s e1 e2
    cases s with
    | no => cases v <;> trivial
    | fr d =>
      cases v with
      | none => exact q.elim
      | some v => exact q
    | own ds =>
      cases v with
      | none => exact q.elim
      | some v =>
        obtain ⟨a, xs, rfl, ha, hf, h0, np, r, nh⟩ := q
        have ne : a ≠ p := fun e => by rw [e, h] at ha; cases ha
        exact ⟨a, xs, rfl, by rw [upd_ne ne]; exact ha, hf, h0, np, r, fun m => (List.mem_cons.mp m).elim ne nh⟩
  · rcases List.mem_cons.mp hb with e | hb
    · subst e
      exact ⟨S.sub.free h, ⟨_, upd_same⟩, S.npa h⟩
    · exact S'.hd b hb
theorem StOk.unhide (S : StOk (C.hide p) σ ρ F H z) : StOk C σ ρ F H z :=
  ⟨S.sub, S.f0, S.h0, S.nw, S.len, fun i v s e1 e2 => by
    have q := S.env i v s e1 e2
    cases s with
    | no => cases v <;> trivial
    | fr d =>
      cases v with
      | none => exact q.elim
      | some v => exact q
    | own ds =>
      cases v with
      | none => exact q.elim
      | some v =>
        obtain ⟨a, xs, rfl, ha, hf, h0, np, r, nh⟩ := q
        exact ⟨a, xs, rfl, ha, hf, h0, np, r, fun m => nh (List.mem_cons_of_mem _ m)⟩, S.apart, S.pz, fun b hb => S.hd b (List.mem_cons_of_mem _ hb)⟩
theorem StOk.leave {ρx : Rho} (S : StOk (C.hide p) (L2.wipe σ vs) (wipeR ρx vs) F H z) : StOk C σ (wipeR ρx vs) F H z := by
  refine S.unhide.slots (by have := S.len; rw [wipe_length] at this; exact this) fun i s e => ?_
  rcases wipeR_some e with h | ⟨h1, h2⟩
  · exact .inl h
  · exact .inr ⟨e, (wipe_out h1).symm⟩
/-- an object hidden from the slots changes -/
theorem StOk.hidUpd {o : HO} (S : StOk C σ ρ F H z) (hp : p ∈ C.hid) (h0 : C.H0 p = none) : StOk C σ ρ F (upd H p o) z := by
  obtain ⟨hf, ⟨o', ho⟩, np⟩ := S.hd p hp
  refine ⟨Same.updR S.sub hf, S.f0, fun b u e n => ?_, S.nw, S.len, fun i v s e1 e2 => ?_, S.apart, fun q e => ?_, fun b hb => ?_⟩
  · rw [upd_ne (ne_of_none e h0)]
    exact S.h0 b u e n
  · have q := S.env i v s e1 e2
    cases s with
    | no => cases v <;> trivial
    | fr d =>
      cases v with
      | none => exact q.elim
      | some v => exact q
    | own ds =>
      cases v with
      | none => exact q.elim
      | some v =>
        obtain ⟨a, xs, rfl, ha, hf, h0, np, r, nh⟩ := q
        have ne : a ≠ p := fun e => nh (by rw [e]; exact hp)
        exact ⟨a, xs, rfl, by rw [upd_ne ne]; exact ha, hf, h0, np, r, nh⟩
  · obtain ⟨h1, x, y, h2, r⟩ := S.pz q e
    have ne : q ≠ p := fun w => np (by rw [← w]; exact e.symm)
    exact ⟨h1, x, y, by rw [upd_ne ne]; exact h2, r⟩
  · obtain ⟨h1, ⟨u, h2⟩, h3⟩ := S.hd b hb
    by_cases e : b = p
    · subst e; exact ⟨h1, ⟨o, upd_same⟩, h3⟩
    · exact ⟨h1, ⟨u, by rw [upd_ne e]; exact h2⟩, h3⟩
end

structure XTs (X : Cx) (C : CC) (W : WX) (ifs : List Expr) (m : E Bool) : Prop where
  ex : ∃ t, PTs X ifs t ∧ Den C W t m kB
section
variable {X : Cx} {C : CC} {W : WX} {e elt tg iter : Expr} {ifs : List Expr} {m ma mb mc : E D} {pos p2 : Pos} {k : Nat} {scope : Scope} {own : List (Str × Nat)}
theorem xts_nil : XTs X C W [] (ep true) := ⟨tYes, pts_nil, fun σ ρ F H z Qd Xd Q S hm hq hx => S.same (R := kB) hm rfl hq⟩
theorem xts_one {mt : E Bool} (h : XT X C W e mt) : XTs X C W [e] mt := by
  obtain ⟨t, h1, h2⟩ := h.ex
  exact ⟨t, pts_one h1, h2⟩
theorem kx_blk {s : Shared} {H : Hp} {cenv : PySem.Env} {fp : List Addr} {D : Addr} (kx : Kx X C W k) : Kx (X.blk s H scope cenv fp) (C.hide D) wN k :=
  ⟨kx.hK, kx.hmg, kx.calm, kx.gu, kx.room, fun u s' ⟨_, _, _, _, _, _, _, _, _, _, _, _, _, _, _, _, w⟩ => w.elim, kx.nd, PassesOwn.never⟩
def lcL (vs : List Nat) (tg : Tg) (mt : E Bool) (me : E D) : List D → List D → E (List D)
  | [], acc => ep acc
  | d :: ds, acc => fun ρ Q X z => tg d ρ fun ρ1 => mt ρ1 (fun t ρ2 z2 => if t = true then me ρ2 (fun y ρ3 z3 => acc.length < 16777216 ∧ lcL vs tg mt me ds (acc ++ [y]) (wipeR ρ3 vs) Q X z3) (fun _ _ _ => False) z2 else lcL vs tg mt me ds acc (wipeR ρ2 vs) Q X z2) (fun _ _ _ => False) z
def eLc (vs : List Nat) (mi : E (List D)) (tg : Tg) (mt : E Bool) (me : E D) : E (List D) := eb mi fun ds ρ Q X z => lcL vs tg mt me ds [] (wipeR ρ vs) Q X z
abbrev Bk (X : Cx) (scope : Scope) (s : Shared) (H : Hp) (Cc : Addr) (cl : List (Str × Addr)) (fp : List Addr) : Cx := X.blk s H scope (compEnvC scope cl Cc X.env) fp
theorem RpL.app1 {K : PySem.W.Frag} {mg : Str → Option Value} {pa : Option Addr} {F : Hp} {vs : List V} {ds : List D} {v : V} {d : D} (h : RpL K mg pa F vs ds) (r : Rp K mg pa F v d) : RpL K mg pa F (vs ++ [v]) (ds ++ [d]) := RpL.append h (.cons r .nil)
theorem lc_den {mi : E (List D)} {g : Tg} {is : List Nat} {mt : E Bool} {me : E D} (kx : Kx X C W k) (hi : XI X C W tg iter mi)
    (hg : ∀ (s : Shared) (H : Hp) (Cc : Addr) (cl : List (Str × Addr)) (fp : List Addr) (D : Addr), Kx (Bk X scope s H Cc cl fp) (C.hide D) wN k → XG (Bk X scope s H Cc cl fp) (C.hide D) tg is g)
    (ht : ∀ (s : Shared) (H : Hp) (Cc : Addr) (cl : List (Str × Addr)) (fp : List Addr) (D : Addr), Kx (Bk X scope s H Cc cl fp) (C.hide D) wN k → XTs (Bk X scope s H Cc cl fp) (C.hide D) wN ifs mt)
    (he : ∀ (s : Shared) (H : Hp) (Cc : Addr) (cl : List (Str × Addr)) (fp : List Addr) (D : Addr), Kx (Bk X scope s H Cc cl fp) (C.hide D) wN k → XE (Bk X scope s H Cc cl fp) (C.hide D) wN elt me)
    (his : ∀ i ∈ is, i ∈ own.map (·.2)) :
    ∃ (wi : TI) (gU : TG) (tU : TT) (eU : TE), PI X tg iter wi ∧ (∀ (s : Shared) (H : Hp) (Cc : Addr) (cl : List (Str × Addr)) (fp : List Addr), PG (X.blk s H scope (compEnvC scope cl Cc X.env) fp) tg gU) ∧
      (∀ (s : Shared) (H : Hp) (Cc : Addr) (cl : List (Str × Addr)) (fp : List Addr), PTs (X.blk s H scope (compEnvC scope cl Cc X.env) fp) ifs tU) ∧
      (∀ (s : Shared) (H : Hp) (Cc : Addr) (cl : List (Str × Addr)) (fp : List Addr), PE (X.blk s H scope (compEnvC scope cl Cc X.env) fp) elt eU) ∧
      Den C W (tLc wi gU tU eU (own.map (·.2))) (eLc (own.map (·.2)) mi g mt me) (RO C) := by
  obtain ⟨wi, i1, i2⟩ := hi.ex
  let gU : TG := fun v σ H Q => ∀ s H2 Cc cl fp, ∃ g', PG (Bk X scope s H2 Cc cl fp) tg g' ∧ g' v σ H Q
  let tU : TT := fun σ H Q => ∀ s H2 Cc cl fp, ∃ t', PTs (Bk X scope s H2 Cc cl fp) ifs t' ∧ t' σ H Q
  let eU : TE := fun σ H Q => ∀ s H2 Cc cl fp, ∃ t', PE (Bk X scope s H2 Cc cl fp) elt t' ∧ t' σ H Q
  have gP : ∀ (s : Shared) (H : Hp) (Cc : Addr) (cl : List (Str × Addr)) (fp : List Addr), PG (X.blk s H scope (compEnvC scope cl Cc X.env) fp) tg gU := fun s H Cc cl fp => ⟨fun pins s1 σ H1 v u Q I r h => by
    obtain ⟨g', p1, p2⟩ := h s H Cc cl fp
    exact p1.run pins s1 σ H1 v u Q I r p2⟩
  have tP : ∀ (s : Shared) (H : Hp) (Cc : Addr) (cl : List (Str × Addr)) (fp : List Addr), PTs (X.blk s H scope (compEnvC scope cl Cc X.env) fp) ifs tU := fun s H Cc cl fp => ⟨fun pins s1 σ H1 Q I h => by
    obtain ⟨g', p1, p2⟩ := h s H Cc cl fp
    exact p1.run pins s1 σ H1 Q I p2⟩
  have eP : ∀ (s : Shared) (H : Hp) (Cc : Addr) (cl : List (Str × Addr)) (fp : List Addr), PE (X.blk s H scope (compEnvC scope cl Cc X.env) fp) elt eU := fun s H Cc cl fp => ⟨fun pins s1 σ H1 Q I h => by
    obtain ⟨g', p1, p2⟩ := h s H Cc cl fp
    exact p1.run pins s1 σ H1 Q I p2⟩
  have gD : ∀ D, DenG (C.hide D) gU is g := fun D σ ρ F H z v d Qd Q S r hm hq s H2 Cc cl fp => by
    obtain ⟨g', p1, p2⟩ := (hg s H2 Cc cl fp D (kx_blk kx)).ex
    exact ⟨g', p1, p2 σ ρ F H z v d Qd Q S r hm hq⟩
  have tD : ∀ D, Den (C.hide D) wN tU mt kB := fun D σ ρ F H z Qd Xd Q S hm hq hx s H2 Cc cl fp => by
    obtain ⟨g', p1, p2⟩ := (ht s H2 Cc cl fp D (kx_blk kx)).ex
    exact ⟨g', p1, p2 σ ρ F H z Qd Xd Q S hm hq hx⟩
  have eD : ∀ D, Den (C.hide D) wN eU me (kR C) := fun D σ ρ F H z Qd Xd Q S hm hq hx s H2 Cc cl fp => by
    obtain ⟨g', p1, p2⟩ := (he s H2 Cc cl fp D (kx_blk kx)).ex
    exact ⟨g', p1, p2 σ ρ F H z Qd Xd Q S hm hq hx⟩
  refine ⟨wi, gU, tU, eU, i1, gP, tP, eP, fun σ ρ F H z Qd Xd Q S hm hq hx => ?_⟩
  refine i2 σ ρ F H z _ Xd _ S hm (fun ds ρ1 z1 J F1 H1 q1 S1 ff1 k1 o1 it => ?_) hx
  intro D hD
  have h0D : C.H0 D = none := S1.h0None hD (S1.npa hD)
  have npD := S1.npa hD
  have oW : ∀ {ρa : Rho}, Ole ρa ρ1 → Ole (wipeR ρa (own.map (·.2))) ρ1 := fun {ρa} o i ys e => by
    rcases wipeR_some e with h | ⟨_, h⟩
    · cases h
    · exact o i ys h
  refine ⟨fun i m H' => m = ds.length - i ∧ i ≤ ds.length ∧ ∃ ρx F' z' acc xs, StOk (C.hide D) (wipe σ (own.map (·.2))) (wipeR ρx (own.map (·.2))) F' H' z' ∧ Same F1 F' ∧ Keep C.pa H1 H' ∧ Ole (wipeR ρx (own.map (·.2))) ρ1 ∧ H' D = some (.lst xs) ∧ C.RL F' xs acc ∧
      lcL (own.map (·.2)) g mt me (ds.drop i) acc (wipeR ρx (own.map (·.2))) Qd Xd z', ⟨ds.length, by simp, Nat.zero_le _, ρ1, F1, z1, [], [], (S1.hideN hD).wipe, Same.refl _, Keep.new hD, oW Ole.refl, upd_same, .nil, q1⟩, ?_⟩
  rintro i m H2 ⟨rfl, hi, ρx, F2, z2, acc, xs, S2, ff2, k2, o2, hx2, rx2, q2⟩
  cases hd : ds[i]? with
  | none =>
    have hl : ds.length ≤ i := List.getElem?_eq_none_iff.mp hd
    rw [List.drop_eq_nil_of_le hl] at q2
    refine .inl ⟨it.stp (C.hide D) _ _ F2 H2 z2 rfl rfl rfl S2 ff2 i hd, ?_⟩
    have hH : H D = none := by
      cases q : H D with
      | none => rfl
      | some o => have := k1 D o q npD; rw [hD] at this; cases this
    exact hq acc _ z2 _ F2 H2 q2 S2.leave (ff1.trans ff2) (k1.trans k2) (o2.trans o1) ⟨D, xs, rfl, hx2, (S2.hd D List.mem_cons_self).1, hH, npD, rx2⟩
  | some d =>
    obtain ⟨hlt, hget⟩ := List.getElem?_eq_some_iff.mp hd
    rw [List.drop_eq_getElem_cons hlt, hget] at q2
    obtain ⟨go, yl⟩ := it.go (C.hide D) _ _ F2 H2 z2 rfl rfl rfl S2 ff2 i d hd
    refine .inr ⟨go, fun H' => ∃ ρx F' z' acc xs, StOk (C.hide D) (wipe σ (own.map (·.2))) (wipeR ρx (own.map (·.2))) F' H' z' ∧ Same F1 F' ∧ Keep C.pa H1 H' ∧ Ole (wipeR ρx (own.map (·.2))) ρ1 ∧ H' D = some (.lst xs) ∧ C.RL F' xs acc ∧
      lcL (own.map (·.2)) g mt me (ds.drop (i + 1)) acc (wipeR ρx (own.map (·.2))) Qd Xd z', fun H' w => ⟨_, by omega, rfl, hlt, w⟩, fun x H3 y => ?_⟩
    obtain ⟨F3, ff3, S3, k3, r3⟩ := yl x H3 y
    refine gD D _ _ F3 H3 z2 x d _ _ S3 r3 q2 (fun σ4 ρ4 q4 S4 u4 o4 => ?_)
    have ew : wipe σ4 (own.map (·.2)) = wipe σ (own.map (·.2)) := wipe_eq his u4.1 u4.2
    refine ⟨ew, ?_⟩
    refine tD D σ4 ρ4 F3 H3 z2 _ (fun _ _ _ => False) _ S4 q4 (fun bb ρ5 z5 b F5 H5 q5 S5 ff5 k5 o5 r5 => ?_) (fun e ρ' z' cls dd F' H' q => q.elim)
    obtain rfl : b = bb := r5
    have hx5 : H5 D = some (.lst xs) := k5 D _ (k3 D _ hx2 npD) npD
    cases b with
    | false =>
      rw [if_neg Bool.false_ne_true] at q5 ⊢
      refine ⟨ρ5, F5, z5, acc, xs, by rw [← ew]; exact S5.wipe, (ff2.trans ff3).trans ff5, (k2.trans k3).trans k5, oW ((o5.trans o4).trans o2), hx5, RpL.mono (ff3.trans ff5) rx2, q5⟩
    | true =>
      rw [if_pos rfl] at q5 ⊢
      refine eD D σ4 ρ5 F5 H5 z5 _ (fun _ _ _ => False) _ S5 q5 (fun yd ρ6 z6 yv F6 H6 q6 S6 ff6 k6 o6 r6 => ?_) (fun e ρ' z' cls dd F' H' q => q.elim)
      have hx6 : H6 D = some (.lst xs) := k6 D _ hx5 npD
      have rx6 : C.RL F6 xs acc := RpL.mono ((ff3.trans ff5).trans ff6) rx2
      refine ⟨xs, hx6, by rw [RpL.length rx6, sizeLine_eq]; exact q6.1, ρ6, F6, z6, acc ++ [yd], xs ++ [yv], ?_, ((ff2.trans ff3).trans ff5).trans ff6, ?_, oW (((o6.trans o5).trans o4).trans o2), upd_same, RpL.app1 rx6 r6, q6.2⟩
      · rw [← ew]
        exact (S6.hidUpd List.mem_cons_self h0D).wipe
      · intro b u e n
        rw [upd_ne (ne_of_none e hD)]
        exact ((k2.trans k3).trans k5).trans k6 b u e n
theorem xo_lc {mi : E (List D)} {g : Tg} {is : List Nat} {mt : E Bool} {me : E D} (kx : Kx X C W k) (hi : XI X C W tg iter mi) (ok : blkC X.N X.env.scope scope own = true)
    (hg : ∀ (s : Shared) (H : Hp) (Cc : Addr) (cl : List (Str × Addr)) (fp : List Addr) (D : Addr), Kx (Bk X scope s H Cc cl fp) (C.hide D) wN k → XG (Bk X scope s H Cc cl fp) (C.hide D) tg is g)
    (ht : ∀ (s : Shared) (H : Hp) (Cc : Addr) (cl : List (Str × Addr)) (fp : List Addr) (D : Addr), Kx (Bk X scope s H Cc cl fp) (C.hide D) wN k → XTs (Bk X scope s H Cc cl fp) (C.hide D) wN ifs mt)
    (he : ∀ (s : Shared) (H : Hp) (Cc : Addr) (cl : List (Str × Addr)) (fp : List Addr) (D : Addr), Kx (Bk X scope s H Cc cl fp) (C.hide D) wN k → XE (Bk X scope s H Cc cl fp) (C.hide D) wN elt me)
    (his : ∀ i ∈ is, i ∈ own.map (·.2)) (hs : ∀ x, foldedSetIterable iter X.env x = pure x := by intro _; rfl) :
    XO X C W (.ListComp elt [⟨tg, iter, ifs, 0⟩] scope pos) (eLc (own.map (·.2)) mi g mt me) := by
  obtain ⟨wi, gU, tU, eU, i1, gP, tP, eP, dd⟩ := lc_den (own := own) kx hi hg ht he his
  exact ⟨_, pe_lc (own := own) kx.calm kx.nd i1 (blkOk_by ok) gP tP eP hs, dd⟩
/-- name = [..], the name owns the list -/
theorem xs_setLcO (i : Nat) {y : Str} {py spos : Pos} {mi : E (List D)} {g : Tg} {is : List Nat} {mt : E Bool} {me : E D} (kx : Kx X C W k) (hy : X.N[i]? = some y) (hyl : X.env.scope.names.lookup y = some .local) (hi : XI X C W tg iter mi) (ok : blkC X.N X.env.scope scope own = true)
    (hg : ∀ (s : Shared) (H : Hp) (Cc : Addr) (cl : List (Str × Addr)) (fp : List Addr) (D : Addr), Kx (Bk X scope s H Cc cl fp) (C.hide D) wN k → XG (Bk X scope s H Cc cl fp) (C.hide D) tg is g)
    (ht : ∀ (s : Shared) (H : Hp) (Cc : Addr) (cl : List (Str × Addr)) (fp : List Addr) (D : Addr), Kx (Bk X scope s H Cc cl fp) (C.hide D) wN k → XTs (Bk X scope s H Cc cl fp) (C.hide D) wN ifs mt)
    (he : ∀ (s : Shared) (H : Hp) (Cc : Addr) (cl : List (Str × Addr)) (fp : List Addr) (D : Addr), Kx (Bk X scope s H Cc cl fp) (C.hide D) wN k → XE (Bk X scope s H Cc cl fp) (C.hide D) wN elt me)
    (his : ∀ i ∈ is, i ∈ own.map (·.2)) (hsw : swapsWith (.ListComp elt [⟨tg, iter, ifs, 0⟩] scope pos) (some (.Name y py)) spos.line X.env = pure true) (hs : ∀ x, foldedSetIterable iter X.env x = pure x := by intro _; rfl) :
    XS X C W (.Assign [.Name y py] (.ListComp elt [⟨tg, iter, ifs, 0⟩] scope pos) spos) (sAsgO (eLc (own.map (·.2)) mi g mt me) i) := by
  obtain ⟨wi, gU, tU, eU, i1, gP, tP, eP, dd⟩ := lc_den (own := own) kx hi hg ht he his
  refine ⟨_, ps_setLc (own := own) kx.calm kx.nd hy hyl hsw i1 (blkOk_by ok) gP tP eP hs, fun σ ρ F H z Qd Xd Dn S hm hq hx => ?_⟩
  refine dd σ ρ F H z _ Xd (fun x H1 => gName i x σ H1 Dn.nx) S hm (fun d ρ1 z1 v F1 H1 q1 S1 ff1 k1 o1 ⟨p, xs, e1, e2, e3, e4, e5, e6⟩ => ?_) (fun e ρ' z' cls dd F' H' q S' ff r => hx e ρ' z' cls dd σ F' H' q S' ff r)
  subst e1
  exact hq _ _ _ _ _ q1 ff1 _ (S1.setO i e2 e3 (S.h0None e4 e5) e5 e6 (S.notOwn e4 o1) (S.notHid e4))
end
end DL

namespace DL
open PySem PySem.Spec PyProof.Rows L2

/-! ## own exception classes -/
def oexB (K : PySem.W.Frag) (C : Addr) : Bool := match K.lookup C with
  | some ⟨.type "type", _, .cls cd, sl⟩ => (match cd.mro, sl.toList with
    | .ref C' :: bm, [_, _, _, _, some (.builtin n), _] => decide (C' = C) && (n == "ValueError.__new__" && (!cd.hasDel && (cd.hasDict && PySem.HandSPX.refsVE bm)))
    | _, _ => false)
  | _ => false
theorem oexB_ok {K : PySem.W.Frag} {C : Addr} (h : oexB K C = true) : ∃ nm q N bs bm sn sub ab col dd k0 k1 k2 k3 k5, K.lookup C = some (excClassObj nm q C N bs bm true sn sub ab col dd k0 k1 k2 k3 k5 "ValueError.__new__") ∧ PySem.HandSPX.refsVE bm = true := by
  unfold oexB at h
  split at h
  · rename_i dd cd sl ho
    split at h
    · rename_i C' bm k0 k1 k2 k3 n k5 hm hs
      simp only [Bool.and_eq_true, decide_eq_true_eq, beq_iff_eq, Bool.not_eq_true'] at h
      obtain ⟨h1, h2, h3, h4, h5⟩ := h
      obtain ⟨nm, bs, mro, ns, qn, hd, sn, sub, ab, col, del⟩ := cd
      obtain ⟨l⟩ := sl
      dsimp only at hm h3 h4 hs
      subst h1 h2 hm h3 h4 hs
      exact ⟨nm, qn, ns, bs, bm, sn, sub, ab, col, dd, k0, k1, k2, k3, k5, ho, h5⟩
    · cases h
  · cases h
def eqOB (a b : Option (Option Value)) : Bool := decide (a = b)
/-- the class at C, its __init__ at f -/
structure EC (K : PySem.W.Frag) (C f : Addr) : Prop where
  oex : OexC K C
  xf : XfC K C
  xc : ExcC K C
  ini : PySem.W.findIn K (.ref C) "__init__" = some (some (.ref f))
  tI : PySem.W.typeIn K (.ref f) = some (.type "function")
  kI : PySem.W.keepIn K (.ref f) = true
  nov : PySem.W.findIn K (.ref C) "value" = some none
  rd : PySem.W.readsIn K C (.type "type") = true
  ga : PySem.W.specialIn K (.ref C) "__getattribute__" = some (some (.builtin "type.__getattribute__"))
  at_ : PySem.W.findCls K (.ref C) (.type "type") "__init__" = some (.val (.ref f))
  ve : PySem.W.findCls K (.type "ValueError") (.type "type") "__init__" = some (.val (.builtin "ValueError.__init__"))
def cfB : Option PySem.W.CFound → Option PySem.W.CFound → Bool
  | some (.val a), some (.val b) => decide (a = b)
  | some (.get a b c d), some (.get a' b' c' d') => decide (a = a') && (decide (b = b') && (decide (c = c') && decide (d = d')))
  | _, _ => false
theorem cfB_ok {a b : Option PySem.W.CFound} (h : cfB a b = true) : a = b := by
  unfold cfB at h
  split at h
  · rw [of_decide_eq_true h]
  · simp only [Bool.and_eq_true, decide_eq_true_eq] at h
    obtain ⟨rfl, rfl, rfl, rfl⟩ := h
    rfl
  · cases h
def ecB (K : PySem.W.Frag) (C f : Addr) : Bool :=
  oexB K C && (eqOB (PySem.W.findIn K (.ref C) "__setattr__") (some (some (.builtin "object.__setattr__"))) && (decide (PySem.W.subIn K (.ref C) (.type "BaseException") = some true) && (decide (PySem.W.typeIn K (.ref C) = some (.type "type")) && (PySem.W.keepIn K (.ref C) &&
  (xfB K C && (eqOB (PySem.W.findIn K (.ref C) "__class__") (some (some (.builtin "object.__class__"))) && (eqOB (PySem.W.specialIn K (.builtin "object.__class__") "__get__") (some (some (.builtin "getset_descriptor.__get__"))) && (decide (PySem.W.takesIn K (.builtin "object.__class__") = some true) && (decide (PySem.W.mroIn K C (.type "object") = some true) &&
  (eqOB (PySem.W.findIn K (.ref C) "__init__") (some (some (.ref f))) && (decide (PySem.W.typeIn K (.ref f) = some (.type "function")) && (PySem.W.keepIn K (.ref f) && (eqOB (PySem.W.findIn K (.ref C) "value") (some none) && (PySem.W.readsIn K C (.type "type") &&
  (eqOB (PySem.W.specialIn K (.ref C) "__getattribute__") (some (some (.builtin "type.__getattribute__"))) && (cfB (PySem.W.findCls K (.ref C) (.type "type") "__init__") (some (.val (.ref f))) &&
  cfB (PySem.W.findCls K (.type "ValueError") (.type "type") "__init__") (some (.val (.builtin "ValueError.__init__")))))))))))))))))))
theorem ecB_ok {K : PySem.W.Frag} {C f : Addr} (h : ecB K C f = true) : EC K C f := by
  unfold ecB eqOB at h
  simp only [Bool.and_eq_true, decide_eq_true_eq] at h
  obtain ⟨h1, h2, h3, h4, h5, h6, h7, h8, h9, h10, h11, h12, h13, h14, h15, h16, h17, h18⟩ := h
  have xf := xfB_ok h6
  exact ⟨⟨oexB_ok h1, h2, h3, h4, h5⟩, xf, ⟨xf.ga, xf.gg, xf.exC, xf.hdC, h7, h8, h9, h10⟩, h11, h12, h13, h14, h15, h16, cfB_ok h17, cfB_ok h18⟩

/-- C.__init__(e, ..), C a class of one's own -/
theorem pe_cinit {X : Cx} {CX : CXT} {C f : Addr} {k : Nat} {fd : FuncData} {ps : List Str} {sp : Sp} {E : XK} {x : Str} {p1 p2 pos : Pos} {e : Expr} {es : List Expr} {t : TA} {pl : Sem Bool} (ec : EC X.K C f) (hg : Gl X x) (hm : X.mg x = some (.ref C))
    (F : FnOk X.prog X.w X.K X.mg X.base CX k f fd ps sp) (hr : Room k X.A) (hb : Binds X.K fd ps []) (hx : Passes CX X E) (ha : PA X (e :: es) t)
    (hc : eval (.Call (.Attribute (.Name x p1) "__init__" p2) (e :: es) [] pos) X.env = (do
      let ov ← eval (.Name x p1) X.env
      standAt p2.atName
      let (f, first) ← holding [ov] (getMethod ov "__init__" pl)
      callWith pos f first (backTo pos (starEach (e :: es) X.env)) (backToKw pos (keywordEach [] X.env))) := by rfl)
    (hdb : (x == ("__debug__" : Str)) = false := by decide)
    (he : starEach (e :: es) X.env = (false, eval e X.env) :: starEach es X.env := by rfl) (hpl : (backTo pos (starEach es X.env)).any (·.1) = false := by rfl) :
    PE X (.Call (.Attribute (.Name x p1) "__init__" p2) (e :: es) [] pos) (tCall sp [] E t) := by
  constructor
  intro pins s σ H Q I h
  refine PySem.W.methodCall_KW (ld_glob I hg hm ?_ hdb) hc
  refine PySem.W.method_cls I.kIn ec.ga ?_
  refine PySem.W.cls_value I.kIn ec.rd ec.at_ rfl ?_
  refine PySem.W.callWith_K (h₀ := X.base) I.ok.mod.kin ec.kI (thn (ha.run pos pins _ σ H _ (I.tok _) h) ?_) he hpl
  rintro us s1 ⟨vs, H1, I1, r, q⟩
  exact ⟨I1.kIn, run_fn F hr hb .nil hx I1 r q⟩

/-! ### the two __init__ -/
def spIK (K : PySem.W.Frag) : Sp := fun vs H Q _ => ∃ (a C : Addr) (v : V), vs = [.ref a, v] ∧ OexC K C ∧ PySem.W.findIn K (.ref C) "value" = some none ∧ H a = some (exo a C none) ∧
  ∀ d, H d = none → d ≠ a → Q .non (upd (upd H d (exd d [(("value" : Str), v)])) a (exo a C (some d)))
theorem spIK_len {K : PySem.W.Frag} : ∀ vs H Q E, spIK K vs H Q E → vs.length = 2 := fun vs H Q E h => by
  obtain ⟨a, C, v, rfl, _⟩ := h
  rfl
abbrev nSV : List Str := ["self", "value"]
/-! ## raise -/
section
variable {X : Cx} {C : CC} {W : WX} {e a b : Expr} {m ma mb : E D} {pos p p1 p2 : Pos} {k : Nat} {x : Str}
def sRaise (c : Str) (m : E D) : E Fl := eb m fun d ρ _ X z => X (c, d) ρ z
theorem xs_raise {Ca fI : Addr} {fd : FuncData} {j : Nat} (kx : Kx X C W (k + 1)) (ec : EC X.K Ca fI) (F : FnOk X.prog X.w X.K X.mg X.base (L2.CX X.prog X.w) j fI fd nSV (spIK X.K)) (hj : j ≤ k) (hb : Binds X.K fd nSV []) (hg : Gl X x) (hm : X.mg x = some (.ref Ca))
    (ha : XE X C W e m) (h1 : S1 X e := by rfl) (hdb : (x == ("__debug__" : Str)) = false := by decide) :
    XS X C W (.Raise (some (.Call (.Name x p) [e] [] p1)) none pos) (sRaise x m) := by
  obtain ⟨t, t1, t2⟩ := ha.ex
  refine ⟨_, ps_raise kx.calm kx.tk (pmk_oex (ds := []) (dvs := []) ec.oex ec.ini ec.tI (F.mono hj) kx.room hb .nil (fun pins σ H s e' s' I c => passes_call kx.tk (E := fun _ _ _ => False) (fun _ _ _ _ z => z.elim) pins σ H s e' s' I c) hg hm (pa1 t1 h1) hdb h1), fun σ ρ F0 H z Qd Xd Dn S hm' hq hx => ?_⟩
  refine t2 σ ρ F0 H z _ Xd (fun v H1 => ([v] : List V).length ≤ 1000 ∧ ∀ a, H1 a = none → spIK X.K (.ref a :: ([v] ++ [])) (upd H1 a (exo a Ca none))
    (fun v' H2 => v' = .non ∧ ∃ (d : Addr) (fs : List (Str × V)), H2 a = some (exo a Ca (some d)) ∧ H2 d = some (exd d fs) ∧ H1 d = none ∧ W (.ref Ca) (some d) σ (upd (del H2 a) d (.xd fs))) (fun _ _ _ => False)) S hm' (fun d ρ1 z1 v F1 H1 q1 S1 ff1 k1 o1 r1 => ?_) (fun e ρ' z' cls dd F' H' q S' ff r => hx e ρ' z' cls dd σ F' H' q S' ff r)
  refine ⟨by show 1 ≤ 1000; omega, fun a ha0 => ⟨a, Ca, v, rfl, ec.oex, ec.nov, upd_same, fun d' hd hda => ?_⟩⟩
  have hd1 : H1 d' = none := by rw [upd_ne hda] at hd; exact hd
  refine ⟨rfl, d', _, upd_same, by rw [upd_ne hda, upd_same], hd1, ?_⟩
  have eH : upd (del (upd (upd (upd H1 a (exo a Ca none)) d' (exd d' [(("value" : Str), v)])) a (exo a Ca (some d'))) a) d' (.xd [(("value" : Str), v)]) = upd H1 d' (.xd [(("value" : Str), v)]) := by
    funext b
    by_cases hb1 : b = d'
    · rw [hb1, upd_same, upd_same]
    · rw [upd_ne hb1, upd_ne hb1]
      by_cases hb2 : b = a
      · rw [hb2, del_same, ha0]
      · rw [del_ne hb2, upd_ne hb2, upd_ne hb1, upd_ne hb2]
  rw [eH]
  exact hx _ ρ1 z1 _ _ σ _ _ q1 (S1.newF hd1) (ff1.trans (Same.new (S1.sub.free hd1))) ⟨Ca, d', v, by rw [← kx.hmg]; exact hm, rfl, rfl, upd_same, Rp.mono (Same.new (S1.sub.free hd1)) r1⟩
end

/-! ## try .. except C as e -/
section
variable {X : Cx} {C : CC} {W : WX} {m ma mb : E D} {pos pos' p np p1 p2 : Pos} {k : Nat} {x n : Str} {cv : Value} {body suite : List Stmt} {b0 : Stmt} {i : Nat}
def dropX (i : Nat) (Q : Fl → Rho → Int → Prop) : Fl → Rho → Int → Prop := fun fl ρ z => match fl with
  | .ret d => Q (.ret d) ρ z
  | .retO d => Q (.retO d) ρ z
  | fl => Q fl (ρ.set i .no) z
/-- tbl: whether the clause takes an error of this class's name -/
def sTry (i : Nat) (mb : E Fl) (tbl : Str → Option Bool) (hM : Addr → Addr → Str → E Fl) : E Fl := fun ρ Q X z => mb ρ Q (fun e ρ' z' => ∃ b, tbl e.1 = some b ∧ if b = true then ∀ a x, hM a x e.1 (ρ'.set i (.fr (.exn a x e.1 e.2))) (dropX i Q) (fun _ _ _ => False) z' else X e ρ' z') z
theorem StOk.setNo {σ : L2.St} {ρ : Rho} {F H : Hp} {z : Int} (S : StOk C σ ρ F H z) (i : Nat) (v : Option V) : StOk C (σ.set i v) (ρ.set i .no) F H z :=
  S.slots (by rw [List.length_set, List.length_set]; exact S.len) fun j s e => by
    rcases get_set e with ⟨_, h2, _⟩ | ⟨h1, h2⟩
    · exact .inl h2
    · exact .inr ⟨h2, List.getElem?_set_ne (Ne.symm h1)⟩
theorem xs_try {mbody : E Fl} {tbl : Str → Option Bool} {hM : Addr → Addr → Str → E Fl} (kx : Kx X C W k) (hs : X.stack = X.env :: X.outer) (hf : X.env.frame = some X.env.locals) (hi : X.N[i]? = some n) (hln : X.env.kindOf n = some .local) (hc : Names X x cv)
    (ht : ∀ nm b A, tbl nm = some b → C.mg nm = some (.ref A) → PySem.W.exmOne X.K (.ref A) cv = some b)
    (hb : ∀ (W' : WX) (pn : List (Addr × Obj)) (xe : Value → Shared → Prop), Kx (X.tr pn xe) C W' k → XSs (X.tr pn xe) C W' body mbody)
    (hsu : ∀ (a : Addr) (oe : Obj) (A x : Addr) (nm : Str) (pn : List (Addr × Obj)), C.mg nm = some (.ref A) → Zc (.ref A) (some x) oe → (∃ vs, oe.data = .fields vs) → tbl nm = some true → XSs (X.suite a ((a, oe) :: pn)) C wN (b0 :: suite) (hM a x nm)) :
    XS X C W (.Try body [.ExceptHandler (some (.Name x np)) (some n) (b0 :: suite) pos'] [] [] pos) (sTry i mbody tbl hM) := by
  let tbU : WX → TS := fun W' D σ H => ∀ pn xe, Kx (X.tr pn xe) C W' k → ∃ t, PSs (X.tr pn xe) body t ∧ t D σ H
  let tsU : Addr → Value → Option Addr → TS := fun a cls d D σ H => ∀ oe pn, Zc cls d oe → (∃ vs, oe.data = .fields vs) → ∃ t, PSs (X.suite a ((a, oe) :: pn)) (b0 :: suite) t ∧ t D σ H
  refine ⟨_, ps_try_as (tb := tbU) (ts := tsU) hs hf kx.nd hi hln hc kx.tk (fun W' pn xe tk po => ?_) (fun a oe cls d pn hz hv => ?_), fun σ ρ F H z Qd Xd Dn S hm hq hx => ?_⟩
  · constructor
    intro pins s σ H D I h
    obtain ⟨t, h1, h2⟩ := h pn xe ⟨kx.hK, kx.hmg, kx.calm, kx.gu, kx.room, tk, kx.nd, po⟩
    exact h1.run pins s σ H D I h2
  · constructor
    intro pins s σ H D I h
    obtain ⟨t, h1, h2⟩ := h oe pn hz hv
    exact h1.run pins s σ H D I h2
  · intro pn xe kx'
    obtain ⟨t, h1, h2⟩ := (hb _ pn xe kx').ex
    refine ⟨t, h1, h2 σ ρ F H z Qd _ Dn S hm hq (fun e ρ' z' cls dd σ' F' H' q S' ff r => ?_)⟩
    obtain ⟨b, hb1, q⟩ := q
    have r0 := r
    obtain ⟨A, x', v, g1, rfl, rfl, g4, g5⟩ := r
    refine ⟨b, ht e.1 b A hb1 g1, fun hb2 a ha oe pn' hz hv => ?_, fun hb2 => ?_⟩
    · subst hb2
      rw [if_pos rfl] at q
      obtain ⟨t2, k1, k2⟩ := (hsu a oe A x' e.1 pn' g1 hz hv hb1).ex
      have S2 : StOk C (σ'.set i (some (.ref a))) (ρ'.set i (.fr (.exn a x' e.1 e.2))) F' H' z' := S'.setF i (.exn g4 g5)
      refine ⟨t2, k1, k2 _ _ F' H' z' _ (fun _ _ _ => False) _ S2 (q a x') (fun fl ρ2 z2 F2 H2 q2 ff2 => ?_) (fun e ρ' z' cls dd σ' F' H' q => q.elim)⟩
      have h3 := fun fl q => hq fl (ρ2.set i .no) z2 F2 H2 q (ff.trans ff2)
      cases fl with
      | nx => exact fun σ2 S2 => h3 .nx q2 _ (S2.setNo i none)
      | bk => exact fun σ2 S2 => h3 .bk q2 _ (S2.setNo i none)
      | ct => exact fun σ2 S2 => h3 .ct q2 _ (S2.setNo i none)
      | ret d => exact hq (.ret d) ρ2 z2 F2 H2 q2 (ff.trans ff2)
      | retO d => exact hq (.retO d) ρ2 z2 F2 H2 q2 (ff.trans ff2)
    · subst hb2
      rw [if_neg Bool.false_ne_true] at q
      exact hx e ρ' z' _ _ σ' F' H' q S' ff r0

/-! ### the error that the suite holds -/
def eExv (i : Nat) (a x : Addr) : E D := fun ρ Q _ z => match ρ[i]? with
  | some (.fr (.exn a' x' _ d)) => (a' = a ∧ x' = x) ∧ Q d ρ z
  | _ => False
theorem xe_exv {a A : Addr} {dx : Addr} {oe : Obj} {pn : List (Addr × Obj)} (hK : X.K = C.K) (T : XfC X.K A) (hno : PySem.W.findIn X.K (.ref A) "value" = some none) (hz : Zc (.ref A) (some dx) oe) (hf : ∃ vs, oe.data = .fields vs) (i : Nat)
    (hv : PE (X.suite a ((a, oe) :: pn)) (.Name n np) (tVar i)) (hb : attributeBase (.Name n np) "value" X.env (eval (.Name n np) X.env) = eval (.Name n np) X.env := by rfl) : XE (X.suite a ((a, oe) :: pn)) C W (.Attribute (.Name n np) "value" pos) (eExv i a dx) := by
  refine ⟨_, pe_xf (pn := pn) T hno hz hf hv hb, fun σ ρ F H z Qd Xd Q S hm hq hx => ?_⟩
  unfold eExv at hm
  cases e : ρ[i]? with
  | none => rw [e] at hm; exact hm.elim
  | some s =>
    rw [e] at hm
    obtain ⟨v, e1, r⟩ := st_get S e
    cases s with
    | no => exact hm.elim
    | own ds => exact hm.elim
    | fr d =>
      cases v with
      | none => exact r.elim
      | some v =>
        cases d with
        | exn a' x' c' d =>
          obtain ⟨⟨rfl, rfl⟩, hm⟩ := hm
          have r' : C.R F v (.exn a' x' c' d) := r
          cases r' with
          | exn g4 g5 => exact ⟨_, e1, rfl, rfl, x', _, _, rfl, S.sub _ _ g4, rfl, S.same (R := kR C) hm g5 hq⟩
        | _ => exact hm.elim
def rIsX (K : PySem.W.Frag) (A a dx : Addr) (cv : Value) : R2 := fun x y H Q => ∃ b, x = .ref a ∧ (∀ u, RelV y u → u = cv) ∧ (∃ fs, H dx = some (.xd fs)) ∧ PySem.W.kitOne K (.ref A) cv = some b ∧ Q (.bl b) H
theorem call_isX {a A dx : Addr} {oe : Obj} {pn : List (Addr × Obj)} (T : ExcC X.K A) (hz : Zc (.ref A) (some dx) oe) (hf : ∃ vs, oe.data = .fields vs) : CallR (X.suite a ((a, oe) :: pn)) (.builtin "isinstance") (fun xs H Q => ∃ x y, xs = [x, y] ∧ rIsX X.K A a dx cv x y H Q) := by
  intro pins s σ H xs us Q I r h
  obtain ⟨x, y, rfl, b, rfl, hcv, ⟨fs, hd⟩, e, q⟩ := h
  cases r with
  | cons rx rr =>
    cases rr with
    | cons rt rr =>
      cases rr
      cases rx
      obtain rfl := hcv _ rt
      obtain ⟨hget, _⟩ := I.pin (a, oe) (List.mem_append.mpr (.inl List.mem_cons_self))
      obtain ⟨vs, hv⟩ := hf
      have hx : ObjOk X.prog X.w H s.heap dx (.xd fs) := I.hok dx _ hd
      obtain ⟨mA, hns, hr⟩ := hx
      obtain ⟨od, ho, hl⟩ := lookIn_ns hns
      have J : PySem.W.InstAt s.heap a oe A (some od) := by
        refine ⟨hget, hz.1, ?_, ?_⟩
        · unfold PySem.W.notCls
          rw [hv] <;> rfl
        · rw [hz.2]
          exact ho
      have hcl : (PySem.W.clsIn X.K A).isSome = true := by
        obtain ⟨cd, hc, _⟩ := PySem.W.any_some T.hd
        rw [hc]
        rfl
      exact PySem.W.kia_one (PySem.W.kitx_exc (od := some od) hcl T.hg T.hk T.hs T.ha T.hn T.ht T.hm) I.kIn J e (fun z => nomatch z) fun tk => ⟨.bl b, H, I.kept (t' := tk) fun _ _ z => z, rfl, q⟩
def eIsX (i : Nat) (a x : Addr) (nm : Str) (tbl : Str → Option Bool) : E D := fun ρ Q _ z => match ρ[i]? with
  | some (.fr (.exn a' x' nm' _)) => (a' = a ∧ x' = x ∧ nm' = nm) ∧ ∃ b, tbl nm = some b ∧ Q (.bl b) ρ z
  | _ => False
/-- isinstance(e, c) -/
theorem xe_isX {a A : Addr} {dx : Addr} {oe : Obj} {pn : List (Addr × Obj)} {nm : Str} {tbl : Str → Option Bool} {y : V} {e2 : Expr} (hK : X.K = C.K) (T : ExcC X.K A) (hz : Zc (.ref A) (some dx) oe) (hf : ∃ vs, oe.data = .fields vs) (i : Nat)
    (hnm : ∀ b, tbl nm = some b → PySem.W.kitOne X.K (.ref A) cv = some b) (hv : PE (X.suite a ((a, oe) :: pn)) (.Name n np) (tVar i)) (h2 : PE (X.suite a ((a, oe) :: pn)) e2 (tC y)) (hy : ∀ u, RelV y u → u = cv)
    (hg : Gl X "isinstance") (hm : X.mg "isinstance" = none) (hp : starEach (.Name n np :: [e2]) X.env = (false, eval (.Name n np) X.env) :: starEach [e2] X.env := by rfl) (hpl : (backTo pos (starEach [e2] X.env)).any (·.1) = false := by rfl) (h1 : S1 X e2 := by rfl) :
    XE (X.suite a ((a, oe) :: pn)) C W (.Call (.Name "isinstance" p) [.Name n np, e2] [] pos) (eIsX i a dx nm tbl) := by
  refine ⟨_, pe_callB (call_isX (pn := pn) (cv := cv) T hz hf) hg hm rfl (pa2 hv h2 hp h1) (by decide) (by decide) hp hpl, fun σ ρ F H z Qd Xd Q S hm' hq hx => ?_⟩
  unfold eIsX at hm'
  cases e : ρ[i]? with
  | none => rw [e] at hm'; exact hm'.elim
  | some s =>
    rw [e] at hm'
    obtain ⟨v, e1, r⟩ := st_get S e
    cases s with
    | no => exact hm'.elim
    | own ds => exact hm'.elim
    | fr d =>
      cases v with
      | none => exact r.elim
      | some v =>
        cases d with
        | exn a' x' c' d =>
          obtain ⟨⟨rfl, rfl, rfl⟩, b, hb, hm'⟩ := hm'
          have r' : C.R F v (.exn a' x' c' d) := r
          cases r' with
          | exn g4 g5 => exact ⟨_, e1, _, _, rfl, b, rfl, hy, ⟨_, S.sub _ _ g4⟩, hnm b hb, S.same (R := kR C) hm' (.bl b) hq⟩
        | _ => exact hm'.elim
end
end DL

namespace DL
open PySem PySem.Spec PyProof.Rows L2

/-! ## own lists that change -/
section
variable {C : CC} {σ : L2.St} {ρ : Rho} {F H : Hp} {z : Int}
theorem StOk.mut (S : StOk C σ ρ F H z) {i : Nat} {ds es : List D} {a : Addr} {ys : List V} (e : ρ[i]? = some (.own ds)) (hs : σ[i]? = some (some (.ref a))) (r : C.RL F ys es) : StOk C σ (ρ.set i (.own es)) F (upd H a (.lst ys)) z := by
  obtain ⟨a', xs, e1, ha, hf, h0, np, r0, nh⟩ := S.env i _ _ hs e
  cases e1
  have hi : i < ρ.length := (List.getElem?_eq_some_iff.mp e).1
  refine ⟨Same.updR S.sub hf, S.f0, fun b u q n => ?_, S.nw, by rw [List.length_set]; exact S.len, fun j v s e1 e2 => ?_, fun j k x y b e1 e2 e3 e4 => ?_, fun q e => ?_, fun b hb => ?_⟩
  · rw [upd_ne (ne_of_none q h0)]
    exact S.h0 b u q n
  · rcases get_set e2 with ⟨h1, h2, _⟩ | ⟨h1, h2⟩
    · subst h1 h2
      rw [hs] at e1
      cases e1
      exact ⟨a, ys, rfl, upd_same, hf, h0, np, r, nh⟩
    · have q := S.env j v s e1 h2
      cases s with
      | no => cases v <;> trivial
      | fr d =>
        cases v with
        | none => exact q.elim
        | some v => exact q
      | own fs =>
        cases v with
        | none => exact q.elim
        | some v =>
          obtain ⟨b, zs, rfl, hb, hfb, h0b, npb, rb, nhb⟩ := q
          have ne : b ≠ a := fun w => h1 (S.apart j i fs ds b h2 e e1 (by rw [hs, w]))
          exact ⟨b, zs, rfl, by rw [upd_ne ne]; exact hb, hfb, h0b, npb, rb, nhb⟩
  · have key : ∀ {j : Nat} {x : List D}, (ρ.set i (Sl.own es))[j]? = some (Sl.own x) → ∃ x', ρ[j]? = some (Sl.own x') := fun {j x} h => by
      rcases get_set h with ⟨h1, h2, _⟩ | ⟨h1, h2⟩
      · rw [h1]; exact ⟨_, e⟩
      · exact ⟨_, h2⟩
    obtain ⟨x', ex⟩ := key e1
    obtain ⟨y', ey⟩ := key e2
    exact S.apart j k x' y' b ex ey e3 e4
  · obtain ⟨h1, x, y, h2, rr⟩ := S.pz q e
    have ne : q ≠ a := fun w => np (by rw [← w]; exact e.symm)
    exact ⟨h1, x, y, by rw [upd_ne ne]; exact h2, rr⟩
  · obtain ⟨h1, ⟨u, h2⟩, h3⟩ := S.hd b hb
    have ne : b ≠ a := fun w => nh (by rw [← w]; exact hb)
    exact ⟨h1, ⟨u, by rw [upd_ne ne]; exact h2⟩, h3⟩
theorem ole_own {i : Nat} {ds es : List D} (e : ρ[i]? = some (.own ds)) : Ole (ρ.set i (.own es)) ρ := fun j ys h => by
  rcases get_set h with ⟨h1, h2, _⟩ | ⟨h1, h2⟩
  · rw [h1]; exact ⟨_, e⟩
  · exact ⟨_, h2⟩
end
section
variable {X : Cx} {C : CC} {W : WX} {e a b : Expr} {m ma mb : E D} {pos p p1 p2 p3 : Pos} {k : Nat} {x : Str}
/-- x.append(e) -/
def sApp (i : Nat) (m : E D) : E Fl := fun ρ Q X z => match ρ[i]? with
  | some (.own _) => m ρ (fun y ρ' z' => match ρ'[i]? with
    | some (.own ds) => ds.length < 16777216 ∧ Q .nx (ρ'.set i (.own (ds ++ [y]))) z'
    | _ => False) X z
  | _ => False
theorem xs_app (i : Nat) (kx : Kx X C W k) (hv : PE X (.Name x p) (tVar i)) (ha : XE X C W e m) (h1 : S1 X e := by rfl)
    (hbase : attributeBase (.Name x p) "append" X.env (eval (.Name x p) X.env) = eval (.Name x p) X.env := by rfl)
    (hfew : ((backTo p2 (starEach (e :: []) X.env)).all (fun x => !x.1) && (backToKw p2 (keywordEach [] X.env)).all (fun x => x.1.isSome)
      && decide ((e :: ([] : List Expr)).length + ([] : List Keyword).length + (if ([] : List Keyword).isEmpty then 0 else 1) < 30)) = true := by rfl)
    (hline : (p1.endLine == p2.line) = true := by rfl) (hs : swapsWith (.Call (.Attribute (.Name x p) "append" p1) [e] [] p2) none p3.line X.env = pure false := by rfl) :
    XS X C W (.Expr (.Call (.Attribute (.Name x p) "append" p1) [e] [] p2) p3) (sApp i m) := by
  obtain ⟨t, t1, t2⟩ := ha.ex
  refine ⟨_, ps_expr (pe_bm PySem.F.plainAttrs_list F.slot_list_append F.type_list_append mt_append hv (pa1 t1 h1) hbase hfew hline h1 rfl) hs, fun σ ρ F H z Qd Xd Dn S hm hq hx => ?_⟩
  unfold sApp at hm
  cases e0 : ρ[i]? with
  | none => rw [e0] at hm; exact hm.elim
  | some s =>
    rw [e0] at hm
    obtain ⟨v, e1, r⟩ := st_get S e0
    cases s with
    | no => exact hm.elim
    | fr d => exact hm.elim
    | own ds0 =>
      cases v with
      | none => exact r.elim
      | some v =>
        obtain ⟨l, xs, rfl, ha0, hf, h0, np, rr, nh⟩ := r
        refine ⟨_, e1, .inl ⟨rfl, xs, .inl (.inl ha0)⟩, ?_⟩
        refine t2 σ ρ F H z _ Xd (fun y H1 => rAppend (.ref l) [y] H1 fun _ H2 => Dn.nx σ H2) S hm (fun d ρ1 z1 v F1 H1 q1 S1 ff1 k1 o1 r1 => ?_) (fun e ρ' z' cls dd F' H' q S' ff r => hx e ρ' z' cls dd σ F' H' q S' ff r)
        cases e2 : ρ1[i]? with
        | none => rw [e2] at q1; exact q1.elim
        | some s =>
          rw [e2] at q1
          cases s with
          | no => exact q1.elim
          | fr d => exact q1.elim
          | own ds =>
            obtain ⟨l', ys, el, hl, _, _, _, r2, _⟩ := S1.env i _ _ e1 e2
            cases el
            refine ⟨l, ys, v, rfl, rfl, hl, by rw [RpL.length r2, sizeLine_eq]; exact q1.1, ?_⟩
            exact hq .nx _ z1 F1 _ q1.2 ff1 σ (S1.mut e2 e1 (RpL.app1 r2 r1))
/-- x.reverse(), x.clear() -/
def sMt0 (i : Nat) (f : List D → List D) : E Fl := fun ρ Q _ z => match ρ[i]? with
  | some (.own ds) => Q .nx (ρ.set i (.own (f ds))) z
  | _ => False
theorem xs_mt0 (i : Nat) {nm : Str} {id : String} {r : V → List V → Hp → VK → Prop} {f : List D → List D} {fv : List V → List V} (slot : Slot "list" nm id) (hty : typeOf (.builtin id) = pure (.type "method_descriptor")) (hm : MtR X id r)
    (hr : ∀ l xs H Q, H l = some (.lst xs) → Q .non (upd H l (.lst (fv xs))) → r (.ref l) [] H Q) (hf : ∀ mg pa (F : Hp) xs ds, RpL C.K mg pa F xs ds → RpL C.K mg pa F (fv xs) (f ds))
    (hv : PE X (.Name x p) (tVar i)) (hbase : attributeBase (.Name x p) nm X.env (eval (.Name x p) X.env) = eval (.Name x p) X.env := by rfl) (hline : (p1.endLine == p2.line) = true := by rfl)
    (hs : swapsWith (.Call (.Attribute (.Name x p) nm p1) [] [] p2) none p3.line X.env = pure false := by rfl) : XS X C W (.Expr (.Call (.Attribute (.Name x p) nm p1) [] [] p2) p3) (sMt0 i f) := by
  refine ⟨_, ps_expr (pe_bm0 PySem.F.plainAttrs_list slot hty hm hv hbase hline) hs, fun σ ρ F H z Qd Xd Dn S hm' hq hx => ?_⟩
  unfold sMt0 at hm'
  cases e0 : ρ[i]? with
  | none => rw [e0] at hm'; exact hm'.elim
  | some s =>
    rw [e0] at hm'
    obtain ⟨v, e1, r⟩ := st_get S e0
    cases s with
    | no => exact hm'.elim
    | fr d => exact hm'.elim
    | own ds0 =>
      cases v with
      | none => exact r.elim
      | some v =>
        obtain ⟨l, xs, rfl, ha0, hf0, h0, np, rr, nh⟩ := r
        refine ⟨_, e1, .inl ⟨rfl, xs, .inl (.inl ha0)⟩, hr l xs H _ ha0 ?_⟩
        exact hq .nx _ z F _ hm' (Same.refl F) σ (S.mut e0 e1 (hf _ _ _ _ _ rr))
theorem RpL.rev {K : PySem.W.Frag} {mg : Str → Option Value} {pa : Option Addr} {F : Hp} : ∀ {ds : List D} {vs : List V}, RpL K mg pa F vs ds → RpL K mg pa F vs.reverse ds.reverse
  | [], _, h => by cases h; exact .nil
  | _ :: _, _, h => by
    cases h with
    | cons a b =>
      rw [List.reverse_cons, List.reverse_cons]
      exact RpL.append (RpL.rev b) (.cons a .nil)
theorem xs_reverse (i : Nat) (hv : PE X (.Name x p) (tVar i)) (hbase : attributeBase (.Name x p) "reverse" X.env (eval (.Name x p) X.env) = eval (.Name x p) X.env := by rfl) (hline : (p1.endLine == p2.line) = true := by rfl)
    (hs : swapsWith (.Call (.Attribute (.Name x p) "reverse" p1) [] [] p2) none p3.line X.env = pure false := by rfl) : XS X C W (.Expr (.Call (.Attribute (.Name x p) "reverse" p1) [] [] p2) p3) (sMt0 i List.reverse) :=
  xs_mt0 i F.slot_list_reverse F.type_list_reverse mt_reverse (fun l xs H Q h q => ⟨l, xs, rfl, rfl, h, q⟩) (fun mg pa F xs ds r => RpL.rev r) hv hbase hline hs
theorem xs_clear (i : Nat) (hv : PE X (.Name x p) (tVar i)) (hbase : attributeBase (.Name x p) "clear" X.env (eval (.Name x p) X.env) = eval (.Name x p) X.env := by rfl) (hline : (p1.endLine == p2.line) = true := by rfl)
    (hs : swapsWith (.Call (.Attribute (.Name x p) "clear" p1) [] [] p2) none p3.line X.env = pure false := by rfl) : XS X C W (.Expr (.Call (.Attribute (.Name x p) "clear" p1) [] [] p2) p3) (sMt0 i fun _ => []) :=
  xs_mt0 i F.slot_list_clear F.type_list_clear mt_clear (fun l xs H Q h q => ⟨l, xs, rfl, rfl, h, q⟩) (fun mg pa F xs ds r => .nil) hv hbase hline hs
/-- x[e] = v -/
def sSetI (i : Nat) (mv mk : E D) : E Fl := eb mv fun y ρ Q X z => match ρ[i]? with
  | some (.own _) => mk ρ (fun d ρ' z' => match ρ'[i]?, d with
    | some (.own ds), .int k => ∃ j, ixN ds.length k = some j ∧ Q .nx (ρ'.set i (.own (ds.set j y))) z'
    | _, _ => False) X z
  | _ => False
theorem xs_setI (i : Nat) {mv mk : E D} {v : Expr} (hv : PE X (.Name x p) (tVar i)) (ha : XE X C W v mv) (hb : XE X C W e mk) (hs : swapsWithSole [.Subscript (.Name x p) e p1] v pos.line X.env = pure false := by rfl) (hw : swappedStores [.Subscript (.Name x p) e p1] v X.env = pure none := by rfl)
    (hset : ∀ w, assign (.Subscript (.Name x p) e p1) X.env w = (do
      let ov ← holding [w] (eval (.Name x p) X.env)
      let iv ← holding [w, ov] (eval e X.env)
      standAt p1
      holding [w, ov, iv] (setItem ov iv w)
      release [w, ov, iv] []) := by intro _; rfl)
    (h1 : (assignEach [.Subscript (.Name x p) e p1] X.env).map (·.2) = [assign (.Subscript (.Name x p) e p1) X.env] := by rfl) :
    XS X C W (.Assign [.Subscript (.Name x p) e p1] v pos) (sSetI i mv mk) := by
  obtain ⟨t, t1, t2⟩ := ha.ex
  obtain ⟨u, u1, u2⟩ := hb.ex
  refine ⟨_, ps_asg t1 (pg_sub hv u1 set_list hset) hs hw h1, fun σ ρ F H z Qd Xd Dn S hm hq hx => ?_⟩
  refine t2 σ ρ F H z _ Xd (fun y H1 => gSub (tVar i) u rSetL y σ H1 Dn.nx) S hm (fun d ρ1 z1 v F1 H1 q1 S1 ff1 k1 o1 r1 => ?_) (fun e ρ' z' cls dd F' H' q S' ff r => hx e ρ' z' cls dd σ F' H' q S' ff r)
  dsimp only at q1
  cases e0 : ρ1[i]? with
  | none => rw [e0] at q1; exact q1.elim
  | some s =>
    rw [e0] at q1
    obtain ⟨w, e1, r⟩ := st_get S1 e0
    cases s with
    | no => exact q1.elim
    | fr d => exact q1.elim
    | own ds0 =>
      cases w with
      | none => exact r.elim
      | some w =>
        obtain ⟨l, xs, rfl, ha0, hf, h0, np, rr, nh⟩ := r
        refine ⟨_, e1, ?_⟩
        refine u2 σ ρ1 F1 H1 z1 _ Xd (fun iv H2 => rSetL (.ref l) iv v H2 fun H3 => Dn.nx σ H3) S1 q1 (fun di ρ2 z2 vi F2 H2 q2 S2 ff2 k2 o2 r2 => ?_) (fun e ρ' z' cls dd F' H' q S' ff r => hx e ρ' z' cls dd σ F' H' q S' (ff1.trans ff) r)
        cases e2 : ρ2[i]? with
        | none => rw [e2] at q2; exact q2.elim
        | some s =>
          rw [e2] at q2
          cases s with
          | no => exact q2.elim
          | fr d => exact q2.elim
          | own ds =>
            cases di with
            | int k =>
              obtain ⟨j, hj, q2⟩ := q2
              cases r2
              obtain ⟨l', ys, el, hl, _, _, _, r3, _⟩ := S2.env i _ _ e1 e2
              cases el
              exact ⟨l, ys, k, j, rfl, rfl, hl, by rw [RpL.length r3]; exact hj, hq .nx _ z2 F2 _ q2 (ff1.trans ff2) σ (S2.mut e2 e1 (RpL.set j r3 (Rp.mono ff2 r1)))⟩
            | _ => exact q2.elim

/-! ## the purse -/
theorem StOk.pzSet {σ : L2.St} {ρ : Rho} {F H : Hp} {z : Int} {q : Addr} {x' y' z' : Int} (S : StOk C σ ρ F H z) (hq : C.pa = some q) (h0 : 0 ≤ x') (h1 : 0 ≤ y') (h2 : y' < 10 ^ 24 + 7) (h3 : 0 ≤ z') : StOk C σ ρ F (upd H q (.lst [.int x', .int y', .int z'])) z' := by
  obtain ⟨hf, x, y, hH, _⟩ := S.pz q hq
  refine ⟨Same.updR S.sub hf, S.f0, fun b u e n => ?_, S.nw, S.len, fun i v s e1 e2 => ?_, S.apart, fun r e => ?_, fun b hb => ?_⟩
  · have ne : b ≠ q := fun w => n (by rw [w, hq])
    rw [upd_ne ne]
    exact S.h0 b u e n
  · have r := S.env i v s e1 e2
    cases s with
    | no => cases v <;> trivial
    | fr d =>
      cases v with
      | none => exact r.elim
      | some v => exact r
    | own fs =>
      cases v with
      | none => exact r.elim
      | some v =>
        obtain ⟨b, zs, rfl, hb, hfb, h0b, npb, rb, nhb⟩ := r
        have ne : b ≠ q := fun w => npb (by rw [w, hq])
        exact ⟨b, zs, rfl, by rw [upd_ne ne]; exact hb, hfb, h0b, npb, rb, nhb⟩
  · have er : r = q := by rw [hq] at e; exact (Option.some.inj e).symm
    subst er
    exact ⟨hf, x', y', upd_same, h0, h1, h2, h3⟩
  · obtain ⟨a1, ⟨u, a2⟩, a3⟩ := S.hd b hb
    have ne : b ≠ q := fun w => a3 (by rw [w, hq])
    exact ⟨a1, ⟨u, by rw [upd_ne ne]; exact a2⟩, a3⟩
def ePz (i k : Nat) : E D := fun ρ Q _ z => match ρ[i]? with
  | some (.fr .cel) => (match k with
    | 0 => ∀ x : Int, 0 ≤ x → Q (.int x) ρ z
    | 1 => ∀ y : Int, 0 ≤ y → y < 10 ^ 24 + 7 → Q (.int y) ρ z
    | 2 => 0 ≤ z → Q (.int z) ρ z
    | _ => False)
  | _ => False
theorem xe_pz (i k : Nat) {j : Nat} {pc : Pos} (hK : X.K = C.K) (hv : PE X (.Name x p) (tVar i)) (hs : PlainIx (.Constant (.int (k : Nat)) j pc)) : XE X C W (.Subscript (.Name x p) (.Constant (.int (k : Nat)) j pc) pos) (ePz i k) := by
  refine ⟨_, pe_ix ix_seq hv pe_int hs, fun σ ρ F H z Qd Xd Q S hm hq hx => ?_⟩
  unfold ePz at hm
  cases e0 : ρ[i]? with
  | none => rw [e0] at hm; exact hm.elim
  | some s =>
    rw [e0] at hm
    obtain ⟨w, e1, r⟩ := st_get S e0
    cases s with
    | no => exact hm.elim
    | own ds0 => exact hm.elim
    | fr d =>
      cases w with
      | none => exact r.elim
      | some w =>
        cases d with
        | cel =>
          have r' : C.R F w .cel := r
          cases r' with
          | @cel q eq =>
            obtain ⟨hf, x', y', hH, g1, g2, g3, g4⟩ := S.pz q eq
            refine ⟨_, e1, ?_⟩
            match k with
            | 0 => exact .inl ⟨q, [.int x', .int y', .int z], ((0 : Nat) : Int), .int x', rfl, rfl, .inl (.inl hH), rfl, S.same (R := kR C) (hm x' g1) (.int _) hq⟩
            | 1 => exact .inl ⟨q, [.int x', .int y', .int z], ((1 : Nat) : Int), .int y', rfl, rfl, .inl (.inl hH), rfl, S.same (R := kR C) (hm y' g2 g3) (.int _) hq⟩
            | 2 => exact .inl ⟨q, [.int x', .int y', .int z], ((2 : Nat) : Int), .int z, rfl, rfl, .inl (.inl hH), rfl, S.same (R := kR C) (hm g4) (.int _) hq⟩
            | k + 3 => exact hm.elim
        | _ => exact hm.elim
def sPz (i k : Nat) (m : E D) : E Fl := fun ρ Q X z => match ρ[i]? with
  | some (.fr .cel) => m ρ (fun d ρ' z' => match d with
    | .int v => ρ'[i]? = some (.fr .cel) ∧ (match k with
      | 0 => 0 ≤ v ∧ Q .nx ρ' z'
      | 2 => 0 ≤ v ∧ Q .nx ρ' v
      | _ => False)
    | _ => False) X z
  | _ => False
theorem xs_pz (i k : Nat) {j : Nat} {pc : Pos} {mv : E D} {v : Expr} (hv : PE X (.Name x p) (tVar i)) (ha : XE X C W v mv) (hs : swapsWithSole [.Subscript (.Name x p) (.Constant (.int (k : Nat)) j pc) p1] v pos.line X.env = pure false := by rfl) (hw : swappedStores [.Subscript (.Name x p) (.Constant (.int (k : Nat)) j pc) p1] v X.env = pure none := by rfl)
    (hset : ∀ w, assign (.Subscript (.Name x p) (.Constant (.int (k : Nat)) j pc) p1) X.env w = (do
      let ov ← holding [w] (eval (.Name x p) X.env)
      let iv ← holding [w, ov] (eval (.Constant (.int (k : Nat)) j pc) X.env)
      standAt p1
      holding [w, ov, iv] (setItem ov iv w)
      release [w, ov, iv] []) := by intro _; rfl)
    (h1 : (assignEach [.Subscript (.Name x p) (.Constant (.int (k : Nat)) j pc) p1] X.env).map (·.2) = [assign (.Subscript (.Name x p) (.Constant (.int (k : Nat)) j pc) p1) X.env] := by rfl) :
    XS X C W (.Assign [.Subscript (.Name x p) (.Constant (.int (k : Nat)) j pc) p1] v pos) (sPz i k mv) := by
  obtain ⟨t, t1, t2⟩ := ha.ex
  refine ⟨_, ps_asg t1 (pg_sub hv pe_int set_list hset) hs hw h1, fun σ ρ F H z Qd Xd Dn S hm hq hx => ?_⟩
  unfold sPz at hm
  cases e0 : ρ[i]? with
  | none => rw [e0] at hm; exact hm.elim
  | some s =>
    rw [e0] at hm
    obtain ⟨w, e1, r⟩ := st_get S e0
    cases s with
    | no => exact hm.elim
    | own ds0 => exact hm.elim
    | fr d =>
      cases w with
      | none => exact r.elim
      | some w =>
        cases d with
        | cel =>
          have r' : C.R F w .cel := r
          cases r' with
          | @cel q eq =>
            refine t2 σ ρ F H z _ Xd (fun y H1 => gSub (tVar i) (tC (.int (k : Nat))) rSetL y σ H1 Dn.nx) S hm (fun d ρ1 z1 v F1 H1 q1 S1 ff1 k1 o1 r1 => ?_) (fun e ρ' z' cls dd F' H' q S' ff r => hx e ρ' z' cls dd σ F' H' q S' ff r)
            cases d with
            | int n =>
              obtain ⟨hi, q1⟩ := q1
              cases r1
              obtain ⟨hf, x', y', hH, g1, g2, g3, g4⟩ := S1.pz q eq
              refine ⟨_, e1, ?_⟩
              match k with
              | 0 => exact ⟨q, _, ((0 : Nat) : Int), 0, rfl, rfl, hH, rfl, hq .nx _ z1 F1 _ q1.2 ff1 σ (S1.pzSet eq q1.1 g2 g3 g4)⟩
              | 2 => exact ⟨q, _, ((2 : Nat) : Int), 2, rfl, rfl, hH, rfl, hq .nx _ n F1 _ q1.2 ff1 σ (S1.pzSet eq g1 g2 g3 q1.1)⟩
              | 1 => exact q1.elim
              | k + 3 => exact q1.elim
            | _ => exact q1.elim
        | _ => exact hm.elim

/-! ## f(purse(..)): a def on a purse of its own -/
theorem StOk.growX {σ : L2.St} {ρ : Rho} {F F' H H' : Hp} {z z' : Int} {q : Addr} (S : StOk C σ ρ F H z) (hp : C.pa = none) (hq0 : C.H0 q = none) (no : ∀ (i : Nat) ys, ρ[i]? = some (.own ys) → σ[i]? ≠ some (some (.ref q))) (nh : q ∉ C.hid)
    (ff : Same F F') (sub : Same F' H') (hk : Keep (some q) H H') (nw : ∀ b, F' b ≠ none → F b = none → H b = none) : StOk C σ ρ F' H' z' := by
  have nE : ∀ {b : Addr}, b ≠ q → some b ≠ some q := fun {b} n e => n (Option.some.inj e)
  refine ⟨sub, S.f0.trans ff, fun b u e n => ?_, fun b h1 h2 => ?_, S.len, fun i v s e1 e2 => ?_, S.apart, fun r e => ?_, fun b hb => ?_⟩
  · exact hk b u (S.h0 b u e n) (nE (ne_of_none e hq0))
  · by_cases g : F b = none
    · have hb := nw b h1 g
      cases e : C.H0 b with
      | none => rfl
      | some o => have := S.h0 b o e (by rw [hp]; simp); rw [hb] at this; cases this
    · exact S.nw b g h2
  · have h := S.env i v s e1 e2
    cases s with
    | no => cases v <;> trivial
    | fr d =>
      cases v with
      | none => exact h.elim
      | some v => exact Rp.mono ff h
    | own ds =>
      cases v with
      | none => exact h.elim
      | some v =>
        obtain ⟨a, xs, rfl, ha, hf, h0, np, r, nh'⟩ := h
        have ne : a ≠ q := fun w => no i ds e2 (by rw [e1, w])
        refine ⟨a, xs, rfl, hk a _ ha (nE ne), ?_, h0, np, RpL.mono ff r, nh'⟩
        cases e : F' a with
        | none => rfl
        | some o =>
          have := nw a (by rw [e]; simp) hf
          rw [ha] at this; cases this
  · rw [hp] at e; cases e
  · obtain ⟨h1, ⟨o, h2⟩, h3⟩ := S.hd b hb
    have ne : b ≠ q := fun w => nh (by rw [← w]; exact hb)
    refine ⟨?_, ⟨o, hk b o h2 (nE ne)⟩, h3⟩
    cases e : F' b with
    | none => rfl
    | some u =>
      have := nw b (by rw [e]; simp) h1
      rw [h2] at this; cases this
def fRight (m : List D → E0 D) : List D → E D
  | [.int x, .int y, .int 0] => fun ρ Q _ z => (0 ≤ x ∧ 0 ≤ y ∧ y < 10 ^ 24 + 7) ∧ m [.cel] (fun d _ => ∃ b, d = .bl b ∧ Q (.bl b) ρ z) (fun _ _ => False) 0
  | _ => eStuck
theorem xe_right {f : Addr} {fd : FuncData} {ps : List Str} {j : Nat} {m : List D → E0 D} {mo : E (List D)} (hp : C.pa = none) (G : GF X x j f fd ps (spF X.K X.mg 1 m)) (kx : Kx X C W k) (hj : j ≤ k) (hb : BG X.K fd ps [] 1 gL gL) (hg : Gl X x)
    (ha : XO X C W e mo) (h1 : S1 X e := by rfl) (hdb : (x == ("__debug__" : Str)) = false := by decide) (hpl : (backTo pos (starEach [] X.env)).any (·.1) = false := by rfl) :
    XE X C W (.Call (.Name x p) [e] [] pos) (eb mo (fRight m)) := by
  obtain ⟨t, t1, t2⟩ := ha.ex
  refine ⟨_, pe_cg G kx hj hb hg (pa1 t1 h1) hdb h1 hpl, fun σ ρ F H z Qd Xd Q S hm hq hx => ?_⟩
  refine t2 σ ρ F H z _ Xd (fun v H1 => ([v] : List V).length = 1 ∧ ([] : List V).length = 0 ∧ spF X.K X.mg 1 m (gL [v] []) H1 Q (WE W σ)) S hm (fun ds ρ1 z1 v F1 H1 q1 S1 ff1 k1 o1 ⟨q, xs, e1, e2, e3, e4, e5, e6⟩ => ?_) hx
  subst e1
  unfold fRight at q1
  split at q1
  · rename_i x y _
    obtain ⟨⟨g1, g2, g3⟩, q1⟩ := q1
    cases e6 with | cons r1 e6 =>
    cases e6 with | cons r2 e6 =>
    cases e6 with | cons r3 e6 =>
    cases e6
    cases r1
    cases r2
    cases r3
    refine ⟨rfl, rfl, rfl, some q, F1, 0, [.cel], _, _, S1.sub, fun r er => ?_, .cons (.cel rfl) .nil, q1, fun d z' v F' H' q2 a r => ?_, fun e z' cls dd F' H' q2 => q2.elim⟩
    · cases er
      exact ⟨e3, x, y, e2, g1, g2, g3, Int.le_refl 0⟩
    · obtain ⟨b, rfl, q2⟩ := q2
      cases r
      have S2 : StOk C σ ρ1 F' H' z1 := S1.growX (q := q) hp (S.h0None e4 (by rw [hp]; simp)) (S.notOwn e4 o1) (S.notHid e4) a.1 a.2.1 a.2.2.1 a.2.2.2.1
      refine hq _ ρ1 z1 _ F' H' q2 S2 (ff1.trans a.1) (fun b u eb n => ?_) o1 (.bl b)
      exact a.2.2.1 b u (k1 b u eb n) (fun w => by rw [Option.some.inj w, e4] at eb; cases eb)
  · exact False.elim q1
end
end DL

namespace DL
open PySem PySem.Spec PyProof.Rows L2

/-! ## the law's end, for defs that ask that no repr is under way -/
/-- a def that no purse reaches -/
def spL (K : PySem.W.Frag) (mg : Str → Option Value) (n : Nat) (m : List D → E0 D) : Sp := fun vs H Q E => vs.length = n ∧ ∃ (F : Hp) (z : Int) (ds : List D) (Qd : D → Int → Prop) (Xd : Er → Int → Prop),
  Same F H ∧ RpL K mg none F vs ds ∧ m ds Qd Xd z ∧ (∀ d z' v F' H', Qd d z' → Aft none F H F' H' z' → Rp K mg none F' v d → Q v H') ∧
  (∀ e z' cls dd F' H', Xd e z' → Aft none F H F' H' z' → ExR ⟨K, mg, none, F, H, []⟩ F' H' e cls dd → E cls dd H')
theorem fnL_of {P : Program} {w : World} {K : PySem.W.Frag} {mg : Str → Option Value} {base : Heap} {k : Nat} {f : Addr} {x qual : Str} {params : Arguments} {body : List Stmt} {scope : Scope} {dvs : List V} {kws : List (Str × V)} {fd : FuncData} {N ps : List Str} {st : E Fl}
    (F : FunD K x qual params body scope dvs kws f fd) (S : FnScope N ps scope)
    (hbody : ∀ (cdv : Value) (A : Around) (outer : List PySem.Env) (s : Shared) (H : Hp) (E : XK) (F0 : Hp), Kx (cxG P w K mg base N qual scope f cdv A outer s H E) ⟨K, mg, none, F0, H, []⟩ (wE E) k →
      XSs (cxG P w K mg base N qual scope f cdv A outer s H E) ⟨K, mg, none, F0, H, []⟩ (wE E) body st) : FnG P w K mg base (k + 1) f fd ps (spL K mg ps.length (dF N.length st)) := by
  refine fnG_of F S (fun vs H Q E h => h.1) fun cdv A outer s H vs Q E hg hr h => ?_
  obtain ⟨hl, F0, z, ds, Qd, Xd, sub, r, hm, hq, hx⟩ := h
  obtain ⟨t, h1, h2⟩ := (hbody cdv A outer s H E F0 (kx_of S hg hr)).ex
  have hn : vs.length ≤ N.length := by have := congrArg List.length S.pre; rw [List.length_take] at this; omega
  have pz : PzOk none F0 H z := fun p e => by cases e
  refine ⟨t, h1, h2 (L2.start N vs) (rho0 N.length ds) F0 H z (outF Qd) (fun e _ z => Xd e z) _ (start_ok sub pz r hn) hm (fun fl ρ' z' F' H' q ff => ?_) fun e ρ' z' cls dd σ' F' H' q S' ff r' => hx e z' cls dd F' H' q S'.aft r'⟩
  cases fl with
  | nx => exact fun σ S' => hq _ _ _ _ _ q S'.aft .non
  | ret d => exact fun σ v S' rv => hq _ _ _ _ _ q S'.aft rv
  | retO d =>
    intro σ v S' ⟨a, xs, e1, e2, e3, e4, e5, e6, _⟩
    subst e1
    exact hq _ _ _ _ _ q (S'.frzAny e2 e3 e4 e5) (.lst e5 upd_same (RpL.mono (Same.new e3) e6))
  | bk => exact False.elim q
  | ct => exact False.elim q
section
variable {P : Program} {w : World} {K : PySem.W.Frag} {mg mb : Str → Option Value} {k : Nat} {fa a : Addr} {fd : FuncData} {x : Str} {s1 : Shared} {vs : List Value} {ns : List Int} {m : List D → E0 D}
/-- the law's promise from its mirror -/
theorem sp_of {H : Hp} (hS : SqL K H a (ns.map V.int)) (hm : m [.scr ns] (fun d _ => d = .bl true) (fun _ _ => False) 0) : spL K mg 1 m [.ref a] H (fun v _ => v = .bl true) (fun _ _ _ => False) :=
  ⟨rfl, H, 0, [.scr ns], _, _, Same.refl H, .cons (.scr hS) .nil, hm, fun d z' v F' H' q a r => by subst q; cases r; rfl, fun e z' cls dd F' H' q _ _ => q⟩
theorem law_end (KX : K.In s1.heap) (hns : s1.heap.Ns mainGlobals mg) (hb : s1.heap.Ns builtinsNs mb) (hbb : ∀ x : Str, x ≠ "__name__" → mb x = bootBuiltins x) (hlim : s1.heap.NoLimit) (hg : s1.gens = #[])
    (ha : s1.heap.get? a = some { cls := .type "list", data := .seq vs.toArray }) (hi : IntsAre vs ns) (hl : ns.length ≤ sizeLine) (hr : Room k callerA) (gu : callerA.guards = some [])
    (F : ∀ base : Heap, K.In base → base.Ns mainGlobals mg → FnG P w K mg base k fa fd [x] (spL K mg 1 m)) (hbind : ∀ (s : Shared) (u : Value), BindsTo s fd ⟨[u], []⟩ [(x, u)])
    (hm : m [.scr ns] (fun d _ => d = .bl true) (fun _ _ => False) 0) :
    codeAny (model P w) callerA (.call (.ref fa) ⟨[.ref a], []⟩) (fun r s' => r = .ok (.ret (.bool true)) ∧ OldK s1.heap s'.heap ∧ s'.os = s1.os ∧ AllBare s'.gens) s1 := by
  have rv := vals_ints hi
  have lv := hi.length
  let so : Obj := { cls := .type "list", data := .seq vs.toArray }
  -- H tracks the script at most
  have main : ∀ H : Hp, (∀ b u, H b = some u → b = a ∧ u = .frz so (.lst (ns.map V.int)) ∧ K.lookup a = none) → SqL K H a (ns.map V.int) → HOk P w H s1.heap →
      codeAny (model P w) callerA (.call (.ref fa) ⟨[.ref a], []⟩) (fun r s' => r = .ok (.ret (.bool true)) ∧ OldK s1.heap s'.heap ∧ s'.os = s1.os ∧ AllBare s'.gens) s1 := by
    intro H hH hS hok
    have hd : ∀ {b : Addr} {o : Obj}, s1.heap.get? b = some o → (∀ h : b = a, False) ∨ H b = none → (hidT s1.heap H).get? b = some o := fun {b o} e h => by
      refine hidT_get e ?_
      rcases h with h | h
      · cases q : H b with
        | none => rfl
        | some u => exact (h (hH b u q).1).elim
      · exact h
    have nsB : ∀ {b : Addr} {f : Str → Option Value}, s1.heap.Ns b f → (hidT s1.heap H).Ns b f := fun {b f} n => by
      obtain ⟨o, es, ep, e, d, r⟩ := n
      refine ⟨o, es, ep, hd e (.inl fun h => ?_), d, r⟩
      subst h
      rw [ha] at e
      cases e
      cases (show Data.seq vs.toArray _ = Data.dict es ep from d)
    have KB : K.In (hidT s1.heap H) := fun b o e => hd (KX b o e) (.inr (by
      cases q : H b with
      | none => rfl
      | some u =>
        obtain ⟨h1, _, h3⟩ := hH b u q
        rw [h1, h3] at e
        cases e))
    obtain ⟨mc, l1, l2⟩ := hlim
    have M : Mod K mg (hidT s1.heap H) := ⟨KB, nsB hns, ⟨mb, nsB hb, hbb⟩, ⟨mc, nsB l1, l2⟩⟩
    have e0 : Env0 P w K mg (hidT s1.heap H) callerA [] s1 H := ⟨rfl, M, fun b o e => of_hidT e, Nat.le_of_eq (hidT_size _ _), trivial, (fun b hb => by cases hb), hok, .of_eq hg⟩
    have run := (F _ KB (nsB hns)).run callerA [] s1 H ⟨[.ref a], []⟩ [.ref a] [.ref a] _ _ gu hr e0 (hbind s1 (.ref a)) (.cons rfl .nil) (sp_of hS hm)
    refine codeAny_mono run ?_
    intro r s' h
    match r with
    | .error e =>
      obtain ⟨_, _, _, _, _, _, _, _, _, _, _, _, hw⟩ := h
      exact False.elim hw
    | .ok .next => exact h.elim
    | .ok .brk => exact h.elim
    | .ok .cont => exact h.elim
    | .ok (.ret u) =>
      obtain ⟨v, H', os, bare, un, hok', r', q⟩ := h
      obtain rfl : v = .bl true := q
      obtain rfl : u = Value.bool true := r'
      refine ⟨rfl, OldK.of_keep fun b o e => ?_, os, bare⟩
      cases q : H b with
      | none => exact un.keep b o e q (fun z => by cases z) (fun z => by cases z)
      | some u =>
        obtain ⟨_, rfl, _⟩ := hH b u q
        have e1 := (hok b _ q).1
        have e2 := (hok' b _ (un.frzs b so _ q)).1
        rw [e] at e1
        cases e1
        exact e2
  cases hk : K.lookup a with
  | some o =>
    have e := KX a o hk
    rw [ha] at e
    cases e
    exact main (fun _ => none) (fun b u z => by cases z) (.inr ⟨_, vs.toArray, _, hk, rfl, rfl, rfl, by rw [List.size_toArray, lv]; exact hl, by simpa using rv⟩) (fun b u z => by cases z)
  | none =>
    let H : Hp := fun b => if b = a then some (.frz so (.lst (ns.map V.int))) else none
    have hH : ∀ b u, H b = some u → b = a ∧ u = .frz so (.lst (ns.map V.int)) := fun b u z => by
      by_cases q : b = a
      · exact ⟨q, (Option.some.inj ((if_pos q).symm.trans z)).symm⟩
      · cases (if_neg q).symm.trans z
    refine main H (fun b u z => ⟨(hH b u z).1, (hH b u z).2, hk⟩) (.inl (.inr ⟨so, if_pos rfl⟩)) fun b u z => ?_
    obtain ⟨rfl, rfl⟩ := hH b u z
    exact ⟨ha, by rw [List.length_map]; exact hl, vs, _, rv, ha⟩
end
/-- the goal that the head leaves -/
theorem walk_end {l : PySem.W.OpenLaw} {n k : Nat} {q : Program} {loose : List Str} {XP : (Str → Option Value) → Heap → Prop} {YP : World → Heap → Prop} {d : DefRec} {x : Str} {m : List D → E0 D}
    (hn : l.most = some n) (hn2 : n ≤ sizeLine) (hdf : d.params.defaults = []) (hr : Room k callerA) (gu : callerA.guards = some [])
    (F : ∀ (w : World) (mg : Str → Option Value) (fa : Addr) (h : Heap), YP w h → h.Ns mainGlobals mg → mg d.name = some (.ref fa) →
      ∃ (K : PySem.W.Frag) (fd : FuncData), K.In h ∧ (∀ (s : Shared) (u : Value), BindsTo s fd ⟨[u], []⟩ [(x, u)]) ∧
        ∀ base : Heap, K.In base → base.Ns mainGlobals mg → FnG l.prog w K mg base k fa fd [x] (spL K mg 1 m))
    (hm : ∀ ns : List Int, ns.length ≤ n → m [.scr ns] (fun d _ => d = .bl true) (fun _ _ => False) 0) :
    PySem.W.WalkO q loose XP YP l.row.toRowW d [] (fun f vs => PySem.call f vs) := by
  apply Att.attach_call hn hdf
  intro w s0 s1 mg mb fa o pm cd doc a vs ns G Y ho hd hcd hmg hobj hints hlen hg
  obtain ⟨K, fd, KX, hb, hF⟩ := F w mg fa _ Y G.T.g hmg
  exact law_end KX G.T.g G.T.b G.T.builtins G.T.nolimit hg hobj hints (Nat.le_trans hlen hn2) hr gu hF hb (hm ns hlen)

/-! ## names for what the printed mirrors hold -/
abbrev bO (f : P2) (ma mb : E D) : E D := eb ma fun x => eb mb fun y => eP (f x y)
abbrev bC (ma mb : E D) : E (List D) := eb ma fun x => eb mb fun y => eP (dCat x y)
abbrev uO (f : P1) (ma : E D) : E D := eb ma fun x => eP (f x)
abbrev aN : E (List D) := ep []
abbrev aC (m : E D) (ms : E (List D)) : E (List D) := eb m fun d => eb ms fun ds => ep (d :: ds)
abbrev tV (m : E D) : E Bool := eb m fun x => eP (dTru x)
abbrev tN (m : E Bool) : E Bool := eb m fun t => ep (!t)
abbrev oP (m : E (List D)) : E D := eb m fun ds => ep (.lst ds)
/-- values put in the parameters' order -/
def pick {α : Type} (ix : List Nat) (l : List α) : List α := ix.filterMap fun i => l[i]?
theorem valsAt : ∀ {vs : List V} {us : List Value} (i : Nat), Vals vs us → (∃ v u, vs[i]? = some v ∧ us[i]? = some u ∧ RelV v u) ∨ (vs[i]? = none ∧ us[i]? = none)
  | _, _, _, .nil => .inr ⟨rfl, rfl⟩
  | _, _, 0, .cons r t => .inl ⟨_, _, rfl, rfl, r⟩
  | _, _, i + 1, .cons r t => by simpa using valsAt i t
theorem pick_vals {vs : List V} {us : List Value} (h : Vals vs us) : ∀ ix : List Nat, Vals (pick ix vs) (pick ix us)
  | [] => .nil
  | i :: r => by
    have ih := pick_vals h r
    unfold pick at ih ⊢
    rcases valsAt i h with ⟨v, u, e1, e2, rr⟩ | ⟨e1, e2⟩
    · rw [List.filterMap_cons, List.filterMap_cons, e1, e2]
      exact .cons rr ih
    · rw [List.filterMap_cons, List.filterMap_cons, e1, e2]
      exact ih
theorem pick_rpl {K : PySem.W.Frag} {mg : Str → Option Value} {pa : Option Addr} {F : Hp} {vs : List V} {ds : List D} (h : RpL K mg pa F vs ds) : ∀ ix : List Nat, RpL K mg pa F (pick ix vs) (pick ix ds)
  | [] => .nil
  | i :: r => by
    have ih := pick_rpl h r
    unfold pick at ih ⊢
    cases e : ds[i]? with
    | none =>
      have e2 : vs[i]? = none := by
        rw [List.getElem?_eq_none_iff] at e ⊢
        rw [RpL.length h]
        exact e
      rw [List.filterMap_cons, List.filterMap_cons, e, e2]
      exact ih
    | some d =>
      obtain ⟨v, e2, rr⟩ := RpL.get h e
      rw [List.filterMap_cons, List.filterMap_cons, e, e2]
      exact .cons rr ih
abbrev gP {α : Type} (ix : List Nat) : List α → List α → List α := fun a b => pick ix (a ++ b)
/-- keywords in any order, no defaults -/
theorem bg_kw {K : PySem.W.Frag} {x qual : Str} {params : Arguments} {body : List Stmt} {scope : Scope} {kws : List (Str × V)} {f : Addr} {fd : FuncData} {ps ks : List Str} (F : FunD K x qual params body scope [] kws f fd) (n : Nat) (ix : List Nat)
    (h : ∀ (kV doc pm : Value) (an : Option Addr) (cdv ct : Value) (us ws : List Value), us.length = n → ws.length = ks.length → bindArgs (PySem.W.fnOf x qual params body scope .none kV doc pm an cdv ct) ⟨us, ks.zip ws⟩ = pure (ps.zip (pick ix (us ++ ws)))) : BG K fd ps ks n (gP ix) (gP ix) := by
  obtain ⟨oc, od, dV, kV, doc, pm, an, cdv, ct, osl, rfl, lk, hcd, hD, hK⟩ := F.ex
  rcases hD with ⟨_, rfl⟩ | ⟨e, _⟩
  · exact ⟨fun s us ws X l1 l2 => ⟨_, .of_eq (h kV doc pm an cdv ct us ws l1 l2), fun vs zs r1 r2 => pick_vals (r1.append r2) ix⟩, fun mg pa F vs ds zs es r1 r2 => pick_rpl (RpL.append r1 r2) ix⟩
  · exact absurd rfl e
/-- a def of the module, as callers use it -/
structure GFn (P : Program) (w : World) (K : PySem.W.Frag) (mg : Str → Option Value) (base : Heap) (x : Str) (j : Nat) (f : Addr) (fd : FuncData) (ps : List Str) (sp : Sp) : Prop where
  fn : FnG P w K mg base j f fd ps sp
  mg : mg x = some (.ref f)
  kp : PySem.W.keepIn K (.ref f) = true
  bg : BG K fd ps [] ps.length gL gL
theorem GFn.g {X : Cx} {x : Str} {j : Nat} {f : Addr} {fd : FuncData} {ps : List Str} {sp : Sp} (h : GFn X.prog X.w X.K X.mg X.base x j f fd ps sp) : GF X x j f fd ps sp := ⟨h.fn, h.mg, h.kp⟩

/-! ## the head's facts, and a Bool of one's own -/
abbrev AlE : Type := He.AlD × Bool
def obsE (n : Nat) (fa : List He.Fa) (fn : List He.DefD) (ex : PySem.W.Frag → Bool) (g : Addr → Option Obj) : AlE := (He.obsD fa fn (He.frG g (PySem.cStatics :: He.asD g n)), ex (He.frG g (PySem.cStatics :: He.asD g n)))
def SaysE (fa : List He.Fa) (fn : List He.DefD) (ex : PySem.W.Frag → Bool) (K : PySem.W.Frag) : Prop := He.SaysD fa fn K ∧ ex K = true
def hookE (n : Nat) (fa : List He.Fa) (fn : List He.DefD) (ex : PySem.W.Frag → Bool) : PySem.W.Hook where
  α := AlE
  obs := fun s => obsE n fa fn ex s.heap.get?
  val := fun _ => (He.valD fn, true)
  says := fun _ h => ∃ K : PySem.W.Frag, K.In h ∧ SaysE fa fn ex K
  of := fun _ _ e => ⟨_, He.frG_in, congrArg (fun z : AlE => z.1) e, congrArg (fun z : AlE => z.2) e⟩
  keeps := fun _ _ _ ⟨K, hK, c⟩ k => ⟨K, PySem.W.Frag.In.keeps hK k, c⟩
theorem obsE_eq {n : Nat} {fa : List He.Fa} {fn : List He.DefD} {ex : PySem.W.Frag → Bool} {g : Addr → Option Obj} {s : Shared} (h : ∀ a, g a = s.heap.get? a) : obsE n fa fn ex g = (hookE n fa fn ex).obs s := by
  have e : g = s.heap.get? := funext h
  rw [e] <;> rfl
end DL

namespace DL
open PySem PySem.Spec PyProof.Rows L2

/-! ## running a mirror: one step a lemma -/
section
variable {α β : Type} (ρ : Rho) (Qd : D → Rho → Int → Prop) (Qb : Bool → Rho → Int → Prop) (Ql : List D → Rho → Int → Prop) (Qf : Fl → Rho → Int → Prop) (Qo : Option Int → Rho → Int → Prop) (X : Er → Rho → Int → Prop) (z : Int)
variable (m ma mb : E D) (ml mk : E (List D)) (mt m1 m2 : E Bool) (s s1 s2 : E Fl) (i j k n : Nat)
@[simp] theorem eb_a (m : E α) (f : α → E β) (Q : β → Rho → Int → Prop) : eb m f ρ Q X z = m ρ (fun a ρ' z' => f a ρ' Q X z') X z := propext Iff.rfl
@[simp] theorem ep_a (a : α) (Q : α → Rho → Int → Prop) : ep a ρ Q X z = Q a ρ z := propext Iff.rfl
@[simp] theorem eP_a (p : (α → Prop) → Prop) (Q : α → Rho → Int → Prop) : eP p ρ Q X z = p fun a => Q a ρ z := propext Iff.rfl
@[simp] theorem eT_a : eT m ρ Qb X z = m ρ (fun d ρ' z' => fT d ρ' Qb X z') X z := propext Iff.rfl
@[simp] theorem fT_a (b : Bool) : fT (.bl b) ρ Qb X z = Qb b ρ z := propext Iff.rfl
@[simp] theorem eIf_a (a b : E α) (Q : α → Rho → Int → Prop) : eIf mt a b ρ Q X z = mt ρ (fun t ρ' z' => (if t = true then a else b) ρ' Q X z') X z := propext Iff.rfl
@[simp] theorem eAnd_a : eAnd m1 m2 ρ Qb X z = m1 ρ (fun t ρ' z' => (if t = true then m2 else ep false) ρ' Qb X z') X z := propext Iff.rfl
@[simp] theorem eOr_a : eOr m1 m2 ρ Qb X z = m1 ρ (fun t ρ' z' => (if t = true then ep true else m2) ρ' Qb X z') X z := propext Iff.rfl
@[simp] theorem eAndV_a : eAndV ma mb ρ Qd X z = ma ρ (fun d ρ' z' => fAndV mb d ρ' Qd X z') X z := propext Iff.rfl
@[simp] theorem eOrV_a : eOrV ma mb ρ Qd X z = ma ρ (fun d ρ' z' => fOrV mb d ρ' Qd X z') X z := propext Iff.rfl
@[simp] theorem eTup_a : eTup ml ρ Qd X z = ml ρ (fun ds ρ' z' => ds.length ≤ 16777216 ∧ Qd (.tup ds) ρ' z') X z := propext Iff.rfl
@[simp] theorem eLst_a : eLst ml ρ Ql X z = ml ρ (fun ds ρ' z' => ds.length ≤ 16777216 ∧ Ql ds ρ' z') X z := propext Iff.rfl
@[simp] theorem eCall_a (n n1 n2 : Nat) (f : List D → E0 α) (gD : List D → List D → List D) (Q : α → Rho → Int → Prop) : eCall n n1 n2 f gD ml mk ρ Q X z = ml ρ (fun ds ρ1 z1 => mk ρ1 (fun es ρ2 z2 =>
  ds.length = n1 ∧ es.length = n2 ∧ (gD ds es).length = n ∧ f (gD ds es) (fun a z' => Q a ρ2 z') (fun e z' => X e ρ2 z') z2) X z1) X z := propext Iff.rfl
@[simp] theorem fRight_a (f : List D → E0 D) (x y : Int) : fRight f [.int x, .int y, .int 0] ρ Qd X z = ((0 ≤ x ∧ 0 ≤ y ∧ y < 10 ^ 24 + 7) ∧ f [.cel] (fun d _ => ∃ b, d = .bl b ∧ Qd (.bl b) ρ z) (fun _ _ => False) 0) := propext Iff.rfl
@[simp] theorem sSeq_a : sSeq s1 s2 ρ Qf X z = s1 ρ (fun fl ρ' z' => fSeq s2 fl ρ' Qf X z') X z := propext Iff.rfl
@[simp] theorem sIf_a : sIf mt s1 s2 ρ Qf X z = mt ρ (fun t ρ' z' => (if t = true then s1 else s2) ρ' Qf X z') X z := propext Iff.rfl
@[simp] theorem sRet_a : sRet m ρ Qf X z = m ρ (fun d ρ' z' => Qf (.ret d) ρ' z') X z := propext Iff.rfl
@[simp] theorem sRetO_a : sRetO ml ρ Qf X z = ml ρ (fun d ρ' z' => Qf (.retO d) ρ' z') X z := propext Iff.rfl
@[simp] theorem sExpr_a : sExpr m ρ Qf X z = m ρ (fun _ ρ' z' => Qf .nx ρ' z') X z := propext Iff.rfl
@[simp] theorem sAsg_a (tg : Tg) : sAsg m tg ρ Qf X z = m ρ (fun d ρ' z' => tg d ρ' fun ρ'' => Qf .nx ρ'' z') X z := propext Iff.rfl
@[simp] theorem sAsgO_a : sAsgO ml i ρ Qf X z = ml ρ (fun ds ρ' z' => Qf .nx (ρ'.set i (.own ds)) z') X z := propext Iff.rfl
@[simp] theorem sPar_a : sPar i j ml ρ Qf X z = ml ρ (fun ds ρ' z' => match ds with
  | [d1, d2] => Qf .nx ((ρ'.set i (.fr d1)).set j (.fr d2)) z'
  | _ => False) X z := propext Iff.rfl
@[simp] theorem sRaise_a (c : Str) : sRaise c m ρ Qf X z = m ρ (fun d ρ' z' => X (c, d) ρ' z') X z := propext Iff.rfl
@[simp] theorem sTry_a (tbl : Str → Option Bool) (hM : Addr → Addr → Str → E Fl) : sTry i s tbl hM ρ Qf X z = s ρ Qf (fun e ρ' z' => ∃ b, tbl e.1 = some b ∧ if b = true then ∀ a x, hM a x e.1 (ρ'.set i (.fr (.exn a x e.1 e.2))) (dropX i Qf) (fun _ _ _ => False) z' else X e ρ' z') z := propext Iff.rfl
@[simp] theorem sFor_a (tg : Tg) : sFor ml tg s ρ Qf X z = ml ρ (fun ds ρ' z' => forL tg s ds ρ' Qf X z') X z := propext Iff.rfl
@[simp] theorem forL_nil (tg : Tg) : forL tg s [] ρ Qf X z = Qf .nx ρ z := propext Iff.rfl
theorem forL_cons (tg : Tg) (d : D) (ds : List D) : forL tg s (d :: ds) ρ Qf X z = tg d ρ (fun ρ1 => s ρ1 (fun fl ρ2 z2 => forK (forL tg s ds) fl ρ2 Qf X z2) X z) := propext Iff.rfl
theorem whL_succ : whL mt s (n + 1) ρ Qf X z = mt ρ (fun t ρ' z' => (if t = true then (fun ρ Q X z => s ρ (fun fl ρ2 z2 => forK (whL mt s n) fl ρ2 Q X z2) X z) else ep .nx) ρ' Qf X z') X z := propext Iff.rfl
theorem sWhile_a (mb : E Fl) : sWhile mt mb ρ Qf X z = ∃ n, whL mt mb n ρ Qf X z := propext Iff.rfl
@[simp] theorem eLc_a (vs : List Nat) (tg : Tg) (me : E D) : eLc vs ml tg mt me ρ Ql X z = ml ρ (fun ds ρ' z' => lcL vs tg mt me ds [] (wipeR ρ' vs) Ql X z') X z := propext Iff.rfl
@[simp] theorem lcL_nil (vs : List Nat) (tg : Tg) (me : E D) (acc : List D) : lcL vs tg mt me [] acc ρ Ql X z = Ql acc ρ z := propext Iff.rfl
theorem lcL_cons (vs : List Nat) (tg : Tg) (me : E D) (d : D) (ds acc : List D) : lcL vs tg mt me (d :: ds) acc ρ Ql X z = tg d ρ (fun ρ1 => mt ρ1 (fun t ρ2 z2 => if t = true then me ρ2 (fun y ρ3 z3 => acc.length < 16777216 ∧ lcL vs tg mt me ds (acc ++ [y]) (wipeR ρ3 vs) Ql X z3) (fun _ _ _ => False) z2 else lcL vs tg mt me ds acc (wipeR ρ2 vs) Ql X z2) (fun _ _ _ => False) z) := propext Iff.rfl
theorem dF_a (ds : List D) (Q : D → Int → Prop) (X0 : Er → Int → Prop) : dF n s ds Q X0 z = s (rho0 n ds) (outF Q) (fun e _ z => X0 e z) z := propext Iff.rfl
theorem dO_a (ds : List D) (Q : List D → Int → Prop) (X0 : Er → Int → Prop) : dO n s ds Q X0 z = s (rho0 n ds) (outO Q) (fun e _ z => X0 e z) z := propext Iff.rfl
end
@[simp] theorem eVar_0 (d : D) (ρ : Rho) (Q : D → Rho → Int → Prop) (X : Er → Rho → Int → Prop) (z : Int) : eVar 0 (.fr d :: ρ) Q X z = Q d (.fr d :: ρ) z := propext Iff.rfl
@[simp] theorem eVar_0o (ds : List D) (ρ : Rho) (Q : D → Rho → Int → Prop) (X : Er → Rho → Int → Prop) (z : Int) : eVar 0 (.own ds :: ρ) Q X z = Q (.lst ds) (.fr (.lst ds) :: ρ) z := propext Iff.rfl
@[simp] theorem eVar_s (i : Nat) (s : Sl) (ρ : Rho) (Q : D → Rho → Int → Prop) (X : Er → Rho → Int → Prop) (z : Int) : eVar (i + 1) (s :: ρ) Q X z = eVar i ρ (fun d ρ' z' => Q d (s :: ρ') z') (fun e ρ' z' => X e (s :: ρ') z') z := by
  unfold eVar
  rw [List.getElem?_cons_succ]
  exact propext Iff.rfl
@[simp] theorem ePk_0 (d : D) (ρ : Rho) (Q : D → Rho → Int → Prop) (X : Er → Rho → Int → Prop) (z : Int) : ePk 0 (.fr d :: ρ) Q X z = Q d (.fr d :: ρ) z := propext Iff.rfl
@[simp] theorem ePk_0o (ds : List D) (ρ : Rho) (Q : D → Rho → Int → Prop) (X : Er → Rho → Int → Prop) (z : Int) : ePk 0 (.own ds :: ρ) Q X z = Q (.lst ds) (.own ds :: ρ) z := propext Iff.rfl
@[simp] theorem ePk_s (i : Nat) (s : Sl) (ρ : Rho) (Q : D → Rho → Int → Prop) (X : Er → Rho → Int → Prop) (z : Int) : ePk (i + 1) (s :: ρ) Q X z = ePk i ρ (fun d ρ' z' => Q d (s :: ρ') z') (fun e ρ' z' => X e (s :: ρ') z') z := by
  unfold ePk
  rw [List.getElem?_cons_succ]
section
variable (ρ : Rho) (Qd : D → Rho → Int → Prop) (Qf : Fl → Rho → Int → Prop) (X : Er → Rho → Int → Prop) (z : Int) (t : Sl) (m ma mb : E D) (i k : Nat)
@[simp] theorem ePz_0 : ePz 0 0 (.fr .cel :: ρ) Qd X z = ∀ x : Int, 0 ≤ x → Qd (.int x) (.fr .cel :: ρ) z := propext Iff.rfl
@[simp] theorem ePz_1 : ePz 0 1 (.fr .cel :: ρ) Qd X z = ∀ y : Int, 0 ≤ y → y < 10 ^ 24 + 7 → Qd (.int y) (.fr .cel :: ρ) z := propext Iff.rfl
@[simp] theorem ePz_2 : ePz 0 2 (.fr .cel :: ρ) Qd X z = (0 ≤ z → Qd (.int z) (.fr .cel :: ρ) z) := propext Iff.rfl
@[simp] theorem sPz_0 : sPz 0 0 m (.fr .cel :: ρ) Qf X z = m (.fr .cel :: ρ) (fun d ρ' z' => match d with
    | .int v => ρ'[0]? = some (.fr .cel) ∧ (0 ≤ v ∧ Qf .nx ρ' z')
    | _ => False) X z := propext Iff.rfl
@[simp] theorem sPz_2 : sPz 0 2 m (.fr .cel :: ρ) Qf X z = m (.fr .cel :: ρ) (fun d ρ' z' => match d with
    | .int v => ρ'[0]? = some (.fr .cel) ∧ (0 ≤ v ∧ Qf .nx ρ' v)
    | _ => False) X z := propext Iff.rfl
@[simp] theorem sRetV_a : sRetV i (t :: ρ) Qf X z = (match (t :: ρ)[i]? with
  | some (.own ds) => Qf (.retO ds) (t :: ρ) z
  | _ => False) := propext Iff.rfl
@[simp] theorem sApp_a : sApp i m (t :: ρ) Qf X z = (match (t :: ρ)[i]? with
  | some (.own _) => m (t :: ρ) (fun y ρ' z' => match ρ'[i]? with
    | some (.own ds) => ds.length < 16777216 ∧ Qf .nx (ρ'.set i (.own (ds ++ [y]))) z'
    | _ => False) X z
  | _ => False) := propext Iff.rfl
@[simp] theorem sMt0_a (f : List D → List D) : sMt0 i f (t :: ρ) Qf X z = (match (t :: ρ)[i]? with
  | some (.own ds) => Qf .nx ((t :: ρ).set i (.own (f ds))) z
  | _ => False) := propext Iff.rfl
@[simp] theorem sSetI_a : sSetI i ma mb ρ Qf X z = ma ρ (fun y ρ1 z1 => match ρ1[i]? with
  | some (.own _) => mb ρ1 (fun d ρ' z' => match ρ'[i]?, d with
    | some (.own ds), .int k => ∃ j, ixN ds.length k = some j ∧ Qf .nx (ρ'.set i (.own (ds.set j y))) z'
    | _, _ => False) X z1
  | _ => False) X z := propext Iff.rfl
@[simp] theorem eExv_a (a x : Addr) : eExv i a x (t :: ρ) Qd X z = (match (t :: ρ)[i]? with
  | some (.fr (.exn a' x' _ d)) => (a' = a ∧ x' = x) ∧ Qd d (t :: ρ) z
  | _ => False) := propext Iff.rfl
@[simp] theorem eIsX_a (a x : Addr) (nm : Str) (tbl : Str → Option Bool) : eIsX i a x nm tbl (t :: ρ) Qd X z = (match (t :: ρ)[i]? with
  | some (.fr (.exn a' x' nm' _)) => (a' = a ∧ x' = x ∧ nm' = nm) ∧ ∃ b, tbl nm = some b ∧ Qd (.bl b) (t :: ρ) z
  | _ => False) := propext Iff.rfl
end
section
variable (s : E Fl) (d : D) (ds es : List D) (a b : Int) (u v : Bool) (x y : Str) (Q : D → Prop) (QL : List D → Prop) (Qb : Bool → Prop) (ρ : Rho) (z : Int) (R : D → Int → Prop) (RL : List D → Int → Prop) (Qf : Fl → Rho → Int → Prop) (i : Nat)
@[simp] theorem fSeq_1 : fSeq s .nx = s := funext fun _ => rfl
@[simp] theorem fSeq_2 : fSeq s (.ret d) = ep (.ret d) := funext fun _ => rfl
@[simp] theorem fSeq_3 : fSeq s (.retO ds) = ep (.retO ds) := funext fun _ => rfl
@[simp] theorem fSeq_4 : fSeq s .bk = ep .bk := funext fun _ => rfl
@[simp] theorem fSeq_5 : fSeq s .ct = ep .ct := funext fun _ => rfl
@[simp] theorem forK_1 : forK s .nx = s := funext fun _ => rfl
@[simp] theorem forK_2 : forK s (.ret d) = ep (.ret d) := funext fun _ => rfl
@[simp] theorem forK_3 : forK s (.retO ds) = ep (.retO ds) := funext fun _ => rfl
@[simp] theorem forK_4 : forK s .bk = ep .nx := funext fun _ => rfl
@[simp] theorem forK_5 : forK s .ct = s := funext fun _ => rfl
@[simp] theorem outF_1 : outF R .nx ρ z = R .non z := propext Iff.rfl
@[simp] theorem outF_2 : outF R (.ret d) ρ z = R d z := propext Iff.rfl
@[simp] theorem outF_3 : outF R (.retO ds) ρ z = R (.lst ds) z := propext Iff.rfl
@[simp] theorem outF_4 : outF R .bk ρ z = False := propext Iff.rfl
@[simp] theorem outF_5 : outF R .ct ρ z = False := propext Iff.rfl
@[simp] theorem outO_1 : outO RL .nx ρ z = False := propext Iff.rfl
@[simp] theorem outO_2 : outO RL (.ret d) ρ z = False := propext Iff.rfl
@[simp] theorem outO_3 : outO RL (.retO ds) ρ z = RL ds z := propext Iff.rfl
@[simp] theorem dropX_1 : dropX i Qf .nx ρ z = Qf .nx (ρ.set i .no) z := propext Iff.rfl
@[simp] theorem dropX_2 : dropX i Qf (.ret d) ρ z = Qf (.ret d) ρ z := propext Iff.rfl
@[simp] theorem dropX_3 : dropX i Qf (.retO ds) ρ z = Qf (.retO ds) ρ z := propext Iff.rfl
@[simp] theorem dropX_4 : dropX i Qf .bk ρ z = Qf .bk (ρ.set i .no) z := propext Iff.rfl
@[simp] theorem dropX_5 : dropX i Qf .ct ρ z = Qf .ct (ρ.set i .no) z := propext Iff.rfl
@[simp] theorem gN_a (Qr : Rho → Prop) : gN i d ρ Qr = Qr (ρ.set i (.fr d)) := propext Iff.rfl
@[simp] theorem gNl_a (Qr : Rho → Prop) : gNl [] ρ Qr = Qr ρ := by unfold gNl; simp
@[simp] theorem gCn_a (t : Tg) (u : Tgs) (Qr : Rho → Prop) : gCn t u (d :: ds) ρ Qr = t d ρ fun ρ' => u ds ρ' Qr := propext Iff.rfl
@[simp] theorem gTp_a (n : Nat) (u : Tgs) (Qr : Rho → Prop) : gTp n u (.tup ds) ρ Qr = (ds.length = n ∧ u ds ρ Qr) := propext Iff.rfl
@[simp] theorem gTp_l (n : Nat) (u : Tgs) (Qr : Rho → Prop) : gTp n u (.lst ds) ρ Qr = (ds.length = n ∧ u ds ρ Qr) := propext Iff.rfl
@[simp] theorem dAdd_1 : dAdd (.int a) (.int b) Q = Q (.int (a + b)) := propext Iff.rfl
@[simp] theorem dAdd_2 : dAdd (.str x) (.str y) Q = (x.length + y.length ≤ 16777216 ∧ Q (.str (x ++ y))) := propext Iff.rfl
@[simp] theorem dAdd_3 : dAdd (.tup ds) (.tup es) Q = (ds.length + es.length ≤ 16777216 ∧ Q (.tup (ds ++ es))) := propext Iff.rfl
@[simp] theorem dCat_1 : dCat (.lst ds) (.lst es) QL = (ds.length + es.length ≤ 16777216 ∧ QL (ds ++ es)) := propext Iff.rfl
@[simp] theorem dSub_1 : dSub (.int a) (.int b) Q = Q (.int (a - b)) := propext Iff.rfl
@[simp] theorem dMul_1 : dMul (.int a) (.int b) Q = (MulC a b ∧ Q (.int (a * b))) := propext Iff.rfl
@[simp] theorem dDiv_1 : dDiv (.int a) (.int b) Q = ((b ≠ 0 ∧ b.natAbs.log2 < 9000) ∧ Q (.int (a.fdiv b))) := propext Iff.rfl
@[simp] theorem dMod_1 : dMod (.int a) (.int b) Q = (b ≠ 0 ∧ Q (.int (a.fmod b))) := propext Iff.rfl
@[simp] theorem dPow_1 : dPow (.int a) (.int b) Q = ((0 ≤ b ∧ (Builtin.Int.intBits a : Int) * b ≤ 2 ^ 27) ∧ Q (.int (a ^ b.toNat))) := propext Iff.rfl
@[simp] theorem dEqB_1 : dEqB (.int a) (.int b) Qb = Qb (decide (a = b)) := propext Iff.rfl
@[simp] theorem dEqB_2 : dEqB (.str x) (.str y) Qb = Qb (decide (x = y)) := propext Iff.rfl
@[simp] theorem dEqB_3 : dEqB (.bl u) (.bl v) Qb = Qb (decide (u = v)) := propext Iff.rfl
@[simp] theorem dEqB_4 : dEqB (.tup ds) (.tup es) Qb = dEqG (.tup ds) (.tup es) Qb := propext Iff.rfl
@[simp] theorem dEqB_5 : dEqB (.lst ds) (.lst es) Qb = dEqG (.lst ds) (.lst es) Qb := propext Iff.rfl
@[simp] theorem dEqB_6 : dEqB (.non) (.tup es) Qb = dEqG .non (.tup es) Qb := propext Iff.rfl
@[simp] theorem dEqB_7 : dEqB (.tup ds) .non Qb = dEqG (.tup ds) .non Qb := propext Iff.rfl
@[simp] theorem dEq_1 (p q : D) : dEq p q Q = dEqB p q fun t => Q (.bl t) := propext Iff.rfl
@[simp] theorem dNe_1 (p q : D) : dNe p q Q = dEqB p q fun t => Q (.bl (!t)) := propext Iff.rfl
@[simp] theorem dLt_1 : dLt (.int a) (.int b) Q = Q (.bl (decide (a < b))) := propext Iff.rfl
@[simp] theorem dLe_1 : dLe (.int a) (.int b) Q = Q (.bl (decide (a ≤ b))) := propext Iff.rfl
@[simp] theorem dGt_1 : dGt (.int a) (.int b) Q = Q (.bl (decide (b < a))) := propext Iff.rfl
@[simp] theorem dGe_1 : dGe (.int a) (.int b) Q = Q (.bl (decide (b ≤ a))) := propext Iff.rfl
@[simp] theorem dIsN_1 : dIsN .non .non Q = Q (.bl true) := propext Iff.rfl
@[simp] theorem dIsN_2 : dIsN (.int a) .non Q = Q (.bl false) := propext Iff.rfl
@[simp] theorem dIsN_3 : dIsN (.tup ds) .non Q = Q (.bl false) := propext Iff.rfl
@[simp] theorem dIsN_4 : dIsN (.lst ds) .non Q = Q (.bl false) := propext Iff.rfl
@[simp] theorem dNotN_1 : dNotN .non .non Q = Q (.bl false) := propext Iff.rfl
@[simp] theorem dNotN_2 : dNotN (.int a) .non Q = Q (.bl true) := propext Iff.rfl
@[simp] theorem dNotN_3 : dNotN (.tup ds) .non Q = Q (.bl true) := propext Iff.rfl
@[simp] theorem dNotN_4 : dNotN (.lst ds) .non Q = Q (.bl true) := propext Iff.rfl
@[simp] theorem dNeg_1 : dNeg (.int a) Q = Q (.int (-a)) := propext Iff.rfl
@[simp] theorem dNot_1 : dNot (.bl u) Q = Q (.bl (!u)) := propext Iff.rfl
@[simp] theorem dIx_1 : dIx (.lst ds) (.int a) Q = ∃ d, atI ds a = some d ∧ Q d := propext Iff.rfl
@[simp] theorem dIx_2 : dIx (.tup ds) (.int a) Q = ∃ d, atI ds a = some d ∧ Q d := propext Iff.rfl
@[simp] theorem dIx_3 (ns : List Int) : dIx (.scr ns) (.int a) Q = ∃ j, atI ns a = some j ∧ Q (.int j) := propext Iff.rfl
@[simp] theorem dTru_1 : dTru (.bl u) Qb = Qb u := propext Iff.rfl
@[simp] theorem dTru_2 : dTru (.int a) Qb = Qb (a != 0) := propext Iff.rfl
@[simp] theorem dTru_3 : dTru (.lst ds) Qb = Qb (!ds.isEmpty) := propext Iff.rfl
@[simp] theorem dTru_4 : dTru (.tup ds) Qb = Qb (!ds.isEmpty) := propext Iff.rfl
@[simp] theorem dTru_5 : dTru .non Qb = Qb false := propext Iff.rfl
@[simp] theorem dLen_1 : dLen (.lst ds) Q = Q (.int ds.length) := propext Iff.rfl
@[simp] theorem dLen_2 : dLen (.tup ds) Q = Q (.int ds.length) := propext Iff.rfl
@[simp] theorem dLen_3 (ns : List Int) : dLen (.scr ns) Q = Q (.int ns.length) := propext Iff.rfl
@[simp] theorem dAbs_1 : dAbs (.int a) Q = Q (.int (if a < 0 then -a else a)) := propext Iff.rfl
@[simp] theorem dInt_1 : dInt (.int a) Q = Q (.int a) := propext Iff.rfl
@[simp] theorem dInt_2 : dInt (.bl u) Q = Q (.int (if u then 1 else 0)) := propext Iff.rfl
@[simp] theorem dBool_1 : dBool (.int a) Q = Q (.bl (a != 0)) := propext Iff.rfl
@[simp] theorem dBool_2 : dBool (.bl u) Q = Q (.bl u) := propext Iff.rfl
@[simp] theorem dMax_1 : dMax (.int a) (.int b) Q = Q (.int (if b > a then b else a)) := propext Iff.rfl
@[simp] theorem dMin_1 : dMin (.int a) (.int b) Q = Q (.int (if b < a then b else a)) := propext Iff.rfl
@[simp] theorem fPart_1 : fPart (.int a) = ep (some a) := funext fun _ => rfl
@[simp] theorem fSlO_1 (lo hi : Option Int) : fSlO (.lst ds) lo hi = ep (cutD ds lo hi) := funext fun _ => rfl
@[simp] theorem fSlE_1 (lo hi : Option Int) : fSlE (.tup ds) lo hi = ep (.tup (cutD ds lo hi)) := funext fun _ => rfl
@[simp] theorem fList_1 : fList (.lst ds) = ep ds := funext fun _ => rfl
@[simp] theorem fList_2 : fList (.tup ds) = ep ds := funext fun _ => rfl
@[simp] theorem fTuple_1 : fTuple (.lst ds) = ep (.tup ds) := funext fun _ => rfl
@[simp] theorem fTuple_2 : fTuple (.tup ds) = ep (.tup ds) := funext fun _ => rfl
@[simp] theorem fSeqI_1 : fSeqI (.lst ds) = ep ds := funext fun _ => rfl
@[simp] theorem fSeqI_2 : fSeqI (.tup ds) = ep ds := funext fun _ => rfl
@[simp] theorem fRng1_1 (X : Er → Rho → Int → Prop) (Ql : List D → Rho → Int → Prop) : fRng1 [.int a] ρ Ql X z = ((-(2 ^ 62) ≤ a ∧ a < 2 ^ 62) ∧ Ql (rngD 0 a.toNat) ρ z) := propext Iff.rfl
@[simp] theorem fRng2_1 (X : Er → Rho → Int → Prop) (Ql : List D → Rho → Int → Prop) : fRng2 [.int a, .int b] ρ Ql X z = ((-(2 ^ 62) ≤ a ∧ a < 2 ^ 62 ∧ -(2 ^ 62) ≤ b ∧ b < 2 ^ 62) ∧ Ql (rngD a (b - a).toNat) ρ z) := propext Iff.rfl
@[simp] theorem fEnum_1 : fEnum [.lst ds] = ep (enumD 0 ds) := funext fun _ => rfl
@[simp] theorem fZip_1 : fZip [.lst ds, .lst es] = ep (zipD ds es) := funext fun _ => rfl
@[simp] theorem fAndV_1 (m : E D) : fAndV m (.bl u) = if u = true then m else ep (.bl false) := funext fun _ => rfl
@[simp] theorem fOrV_2 (m : E D) : fOrV m (.bl u) = if u = true then ep (.bl true) else m := funext fun _ => rfl
end
/-- a test that is not decided yet -/
@[simp] theorem ite_E {α : Type} (c : Prop) [Decidable c] (A B : E α) (ρ : Rho) (Q : α → Rho → Int → Prop) (X : Er → Rho → Int → Prop) (z : Int) : (if c then A else B) ρ Q X z = ((c → A ρ Q X z) ∧ (¬ c → B ρ Q X z)) := by
  by_cases h : c
  · simp [h]
  · simp [h]
@[simp] theorem bits10 : Builtin.Int.intBits 10 = 4 := by decide +kernel
theorem bits_of {i : Int} {n : Nat} (h : i.natAbs < 2 ^ n) (hn : 0 < n) : (Builtin.Int.intBits i : Int) ≤ n := by
  have := bits_le h hn
  omega
@[simp] theorem gL_a (a b : List D) : gL a b = a := by cases a <;> rfl
@[simp] theorem gP_a (ix : List Nat) (a b : List D) : gP ix a b = pick ix (a ++ b) := by cases a <;> rfl
@[simp] theorem pick_0 (l : List D) : pick [] l = [] := by cases l <;> rfl
@[simp] theorem pick_1 (i : Nat) (r : List Nat) (l : List D) : pick (i :: r) l = (match l[i]? with
  | some x => x :: pick r l
  | none => pick r l) := by
  unfold pick
  rw [List.filterMap_cons]
  cases l[i]? <;> rfl
@[simp] theorem dRepr_1 (ds : List D) (Q : D → Prop) : dRepr (.lst ds) Q = (reprOk (.lst ds) ∧ Q (.str (D.lst ds).py.shown)) := propext Iff.rfl
@[simp] theorem dRepr_2 (ds : List D) (Q : D → Prop) : dRepr (.tup ds) Q = (reprOk (.tup ds) ∧ Q (.str (D.tup ds).py.shown)) := propext Iff.rfl
/-! ## what may be shown -/
mutual
def D.okS : D → Prop
  | .non => True
  | .bl _ => True
  | .int i => i.natAbs < 2 ^ 200
  | .str s => ∀ c ∈ s.cps.toList, c < 16 ^ 8
  | .lst xs => okSL xs
  | .tup xs => okSL xs
  | _ => False
def okSL : List D → Prop
  | [] => True
  | x :: r => x.okS ∧ okSL r
end
mutual
def D.blk : D → Nat
  | .str s => s.cps.size
  | .lst xs => blkL xs
  | .tup xs => blkL xs
  | _ => 0
def blkL : List D → Nat
  | [] => 0
  | x :: r => x.blk + 1 + blkL r
end
mutual
def D.dep : D → Nat
  | .lst xs => depL xs + 1
  | .tup xs => depL xs + 1
  | _ => 0
def depL : List D → Nat
  | [] => 0
  | x :: r => max x.dep (depL r)
end
mutual
theorem okS_all : ∀ d : D, d.okS → d.isPy = true ∧ d.py.showable = true ∧ d.py.leavesShort 202 = true ∧ d.py.bulk = d.blk ∧ d.py.depth = d.dep
  | .non, _ => ⟨rfl, rfl, rfl, rfl, rfl⟩
  | .bl _, _ => ⟨rfl, rfl, rfl, rfl, rfl⟩
  | .int i, h => by
    have hl : i.natAbs.log2 < 200 := PySem.Flt.log2_lt_of (by omega) h
    refine ⟨rfl, decide_eq_true (by omega), ?_, rfl, rfl⟩
    have := PySem.int_text_length_le (a := i) (k := 200) (by omega) hl
    refine decide_eq_true ?_
    show (PySem.Str.ofString (toString i)).length ≤ 202
    rw [PySem.ofString_length]
    omega
  | .str s, h => ⟨rfl, rfl, by
      show (s.cps.toList.all fun c => decide (c < 16 ^ 8)) = true
      rw [List.all_eq_true]
      exact fun c hc => decide_eq_true (h c hc), rfl, rfl⟩
  | .lst xs, h => by
    obtain ⟨h1, h2, h3, h4, h5⟩ := okSL_all xs h
    exact ⟨h1, h2, h3, h4, congrArg (· + 1) h5⟩
  | .tup xs, h => by
    obtain ⟨h1, h2, h3, h4, h5⟩ := okSL_all xs h
    exact ⟨h1, h2, h3, h4, congrArg (· + 1) h5⟩
  | .cel, h => h.elim
  | .ins _ _ _, h => h.elim
  | .dic _ _, h => h.elim
  | .exn _ _ _ _, h => h.elim
  | .scr _, h => h.elim
theorem okSL_all : ∀ ds : List D, okSL ds → isPyL ds = true ∧ PyData.showableAll (pyL ds) = true ∧ PyData.leavesShortAll 202 (pyL ds) = true ∧ PyData.bulkAll (pyL ds) = blkL ds ∧ PyData.depthAll (pyL ds) = depL ds
  | [], _ => ⟨rfl, rfl, rfl, rfl, rfl⟩
  | d :: r, h => by
    obtain ⟨h1, h2, h3, h4, h5⟩ := okS_all d h.1
    obtain ⟨k1, k2, k3, k4, k5⟩ := okSL_all r h.2
    refine ⟨?_, ?_, ?_, ?_, ?_⟩
    · show (d.isPy && isPyL r) = true
      rw [h1, k1]; rfl
    · show (d.py.showable && PyData.showableAll (pyL r)) = true
      rw [h2, k2]; rfl
    · show (d.py.leavesShort 202 && PyData.leavesShortAll 202 (pyL r)) = true
      rw [h3, k3]; rfl
    · show d.py.bulk + 1 + PyData.bulkAll (pyL r) = d.blk + 1 + blkL r
      rw [h4, k4]
    · show max d.py.depth (PyData.depthAll (pyL r)) = max d.dep (depL r)
      rw [h5, k5]
end
theorem reprOk_of {d : D} (h : d.okS) (hd : d.dep ≤ 60) (hb : d.blk ≤ 80000) : reprOk d := by
  obtain ⟨h1, h2, h3, h4, h5⟩ := okS_all d h
  have := PyData.shown_le_bulk 202 (by omega) d.py h3
  exact ⟨h1, h2, by omega, by omega⟩
theorem mulC_l {a b : Int} (h : -9223372036854775808 < a ∧ a < 9223372036854775808) : MulC a b := .inl (by omega)
theorem mulC_r {a b : Int} (h : -9223372036854775808 < b ∧ b < 9223372036854775808) : MulC a b := .inr (.inl (by omega))
theorem log_lt {n : Int} (h : -9223372036854775808 < n ∧ n < 9223372036854775808) : n.natAbs.log2 < 9000 := by
  have : n.natAbs.log2 < 64 := PySem.Flt.log2_lt_of (by omega) (by omega)
  omega
theorem log_lt2 {n : Int} (h : n.natAbs < 2 ^ 1000) : n.natAbs.log2 < 9000 := by
  have : n.natAbs.log2 < 1000 := PySem.Flt.log2_lt_of (by omega) h
  omega
theorem bits_3 {i : Int} (h : i.natAbs < 2 ^ 200) : (Builtin.Int.intBits i : Int) * 3 ≤ 134217728 := by
  have := bits_of h (by omega)
  omega
theorem bits_2 {i : Int} (h : i.natAbs < 2 ^ 200) : (Builtin.Int.intBits i : Int) * 2 ≤ 134217728 := by
  have := bits_of h (by omega)
  omega
theorem fmod_b (a : Int) {b : Int} (h : 0 < b) : 0 ≤ a.fmod b ∧ a.fmod b < b := ⟨Int.fmod_nonneg_of_pos a h, Int.fmod_lt_of_pos a h⟩
theorem log1024 : Nat.log2 1024 < 9000 := by decide +kernel
theorem log4096 : Nat.log2 4096 < 9000 := by decide +kernel
theorem atI_nat {α : Type} (l : List α) (j : Nat) (h : j < l.length) : L2.atI l (j : Int) = some l[j] := by
  unfold L2.atI ixN
  rw [if_pos (by omega), if_pos (by omega)]
  simp
theorem gcd_step (a b : Int) (ha : 0 ≤ a) (hb : 0 < b) : Int.gcd b (a.fmod b) = Int.gcd a b := by
  rw [Int.fmod_eq_emod_of_nonneg a (by omega)]
  obtain ⟨m, rfl⟩ := Int.eq_ofNat_of_zero_le ha
  obtain ⟨n, rfl⟩ := Int.eq_ofNat_of_zero_le (Int.le_of_lt hb)
  show Nat.gcd n (m % n) = Nat.gcd m n
  rw [Nat.gcd_comm m n, Nat.gcd_rec n m, Nat.gcd_comm]
theorem gcd_abs (a b : Int) : Int.gcd (if a < 0 then -a else a) (if b < 0 then -b else b) = Int.gcd a b := by
  split <;> split <;> simp
@[simp] theorem atI_lit {α : Type} (l : List α) (n : Nat) : L2.atI l (no_index (OfNat.ofNat n : Int)) = l[n]? := by
  unfold L2.atI ixN
  have e : (OfNat.ofNat n : Int) = ((n : Nat) : Int) := rfl
  rw [e, if_pos (by omega)]
  by_cases h : n < l.length
  · rw [if_pos (by omega)]
    simp
  · rw [if_neg (by omega), List.getElem?_eq_none (by omega)]
    rfl
@[simp] theorem atI_neg1 {α : Type} (l : List α) : L2.atI l (-1) = l.getLast? := by
  unfold L2.atI ixN
  rw [if_neg (by omega), List.getLast?_eq_getElem?]
  by_cases h : l.length = 0
  · rw [if_neg (by omega), List.getElem?_eq_none (by omega)]
    rfl
  · rw [if_pos (by omega)]
    show l[((-1 : Int) + (l.length : Int)).toNat]? = _
    congr 1
    omega
theorem atI_all {α : Type} (l : List α) (c : Int) (h0 : 0 ≤ c) (h1 : c < l.length) (K : α → Prop) (h : ∀ d ∈ l, K d) : ∃ d, L2.atI l c = some d ∧ K d := by
  obtain ⟨j, rfl⟩ := Int.eq_ofNat_of_zero_le h0
  have hj : j < l.length := by omega
  exact ⟨l[j], atI_nat l j hj, h _ (List.getElem_mem hj)⟩
theorem strS {s : Str} (h : (s.cps.toList.all fun c => decide (c < 16 ^ 8)) = true) : (D.str s).okS := fun c hc => of_decide_eq_true (List.all_eq_true.mp h c hc)
theorem fdiv_small (x s : Int) : (x.fdiv s).natAbs ≤ x.natAbs + 1 := by
  have h := Int.natAbs_ediv_le_natAbs x s
  rw [Int.fdiv_eq_ediv]
  split <;> omega
end DL

namespace DL
open PySem PySem.Spec PyProof.Rows L2

/-! ## a op b op c -/
section
variable {X : Cx} {C : CC} {W : WX} {e a b c : Expr} {ma mb mc : E D} {pos p : Pos} {k : Nat} {f g : P2}
def blK : D → (Bool → Prop) → Prop
  | .bl t, K => K t
  | _, _ => False
theorem blK_of {d : D} {K : Bool → Prop} (h : blK d K) : ∃ t, d = .bl t ∧ K t := by
  cases d with
  | bl t => exact ⟨t, rfl, h⟩
  | _ => exact h.elim
@[simp] theorem blK_1 (t : Bool) (K : Bool → Prop) : blK (.bl t) K = K t := propext Iff.rfl
def eCh (f g : P2) (ma mb mc : E D) : E D := eb ma fun x => eb mb fun y ρ Q X z => f x y fun d => blK d fun t => ((t = true → mc ρ (fun w ρ' z' => g y w fun d => Q d ρ' z') X z) ∧ (t = false → Q (.bl false) ρ z))
theorem den_chain {r r' : R2} {ta tb tc : TE} (ha : Den C W ta ma (kT C)) (hb : Den C W tb mb (kT C)) (hc : Den C W tc mc (kT C)) (ho : Op2 C W r (fun x y => eP (f x y)) (kR C)) (ho' : Op2 C W r' (fun x y => eP (g x y)) (kR C)) :
    Den C W (tChain r r' ta tb tc) (eCh f g ma mb mc) (kR C) := by
  refine Den.bind (u := fun x σ H Q => tb σ H fun y H2 => r x y H2 fun z H3 => ∃ k, z = V.bl k ∧ (if k = true then tc σ H3 fun w' H4 => r' y w' H4 Q else Q (.bl false) H3)) back_R ha fun H0 σ ρ F H z dx x Qd Xd Q S rx hm hq hx => ?_
  refine hb σ ρ F H z _ Xd _ S hm (fun dy ρ2 z2 y F2 H2 q2 S2 ff2 k2 o2 ry => ?_) hx
  refine ho σ ρ2 F2 H2 z2 x y dx dy (fun d ρ' z' => blK d fun t => ((t = true → mc ρ' (fun w ρ' z' => g dy w fun d => Qd d ρ' z') Xd z') ∧ (t = false → Qd (.bl false) ρ' z'))) Xd _ S2 (rx.keep ff2 k2) ry q2 (fun d ρ3 z3 v F3 H3 q3 S3 ff3 k3 o3 r3 => ?_) (fun e ρ' z' cls dd F' H' q' S' ff' r' => hx e ρ' z' cls dd F' H' q' S' (ff2.trans ff') r')
  obtain ⟨t, rfl, q3, q4⟩ := blK_of q3
  cases r3
  refine ⟨t, rfl, ?_⟩
  have hh : ∀ c ρ' z' d F' H', Qd c ρ' z' → StOk C σ ρ' F' H' z' → Same F3 F' → Keep C.pa H3 H' → Ole ρ' ρ3 → C.R F' d c → Q d H' := fun c ρ' z' d F' H' q S' ff' k' o' r' =>
    hq c ρ' z' d F' H' q S' (ff2.trans (ff3.trans ff')) (k2.trans (k3.trans k')) ((o'.trans o3).trans o2) r'
  have hxx : ∀ e ρ' z' cls dd F' H', Xd e ρ' z' → StOk C σ ρ' F' H' z' → Same F3 F' → ExR C F' H' e cls dd → W cls dd σ H' := fun e ρ' z' cls dd F' H' q S' ff' r' => hx e ρ' z' cls dd F' H' q S' (ff2.trans (ff3.trans ff')) r'
  cases t with
  | false =>
    rw [if_neg Bool.false_ne_true]
    exact S3.same (R := kR C) (q4 rfl) (.bl _) hh
  | true =>
    rw [if_pos rfl]
    refine hc σ ρ3 F3 H3 z3 _ Xd _ S3 (q3 rfl) (fun dw ρ4 z4 w F4 H4 q5 S4 ff4 k4 o4 rw' => ?_) hxx
    exact ho' σ ρ4 F4 H4 z4 y w dy dw Qd Xd Q S4 ((ry.keep ff3 k3).keep ff4 k4) rw' q5
      (fun c ρ' z' d F' H' q' S' ff' k' o' r' => hh c ρ' z' d F' H' q' S' (ff4.trans ff') (k4.trans k') (o'.trans o4) r')
      (fun e ρ' z' cls dd F' H' q' S' ff' r' => hxx e ρ' z' cls dd F' H' q' S' (ff4.trans ff') r')
theorem xt_chain {op op' : CmpOp} {r r' : R2} (h : OpR X (compareOp op) r) (ho : Op2 C W r (fun x y => eP (f x y)) (kR C)) (h' : OpR X (compareOp op') r') (ho' : Op2 C W r' (fun x y => eP (g x y)) (kR C)) (ha : XP X C W a ma) (hb : XP X C W b mb) (hc : XP X C W c mc)
    (hm : lastMarks [op, op'] [b, c] = false := by with_unfolding_all rfl) : XT X C W (.Compare a [op, op'] [b, c] pos) (eT (eCh f g ma mb mc)) := by
  obtain ⟨ta, a1, a2⟩ := ha.ex
  obtain ⟨tb, b1, b2⟩ := hb.ex
  obtain ⟨tc, c1, c2⟩ := hc.ex
  exact ⟨_, pt_chain h h' a1 b1 c1 hm, den_test (den_chain a2 b2 c2 ho ho')⟩
theorem xe_chain {op op' : CmpOp} {r r' : R2} (h : OpR X (compareOp op) r) (ho : Op2 C W r (fun x y => eP (f x y)) (kR C)) (h' : OpR X (compareOp op') r') (ho' : Op2 C W r' (fun x y => eP (g x y)) (kR C)) (ha : XP X C W a ma) (hb : XP X C W b mb) (hc : XP X C W c mc)
    (hm : lastMarks [op, op'] [b, c] = false := by with_unfolding_all rfl) : XE X C W (.Compare a [op, op'] [b, c] pos) (eCh f g ma mb mc) := by
  obtain ⟨ta, a1, a2⟩ := ha.ex
  obtain ⟨tb, b1, b2⟩ := hb.ex
  obtain ⟨tc, c1, c2⟩ := hc.ex
  exact ⟨_, pe_chain h h' a1 b1 c1 hm, den_chain a2 b2 c2 ho ho'⟩
end
@[simp] theorem eCh_a (f g : P2) (ma mb mc : E D) (ρ : Rho) (Q : D → Rho → Int → Prop) (X : Er → Rho → Int → Prop) (z : Int) : eCh f g ma mb mc ρ Q X z = ma ρ (fun x ρ1 z1 => mb ρ1 (fun y ρ2 z2 => f x y fun d => blK d fun t => ((t = true → mc ρ2 (fun w ρ' z' => g y w fun d => Q d ρ' z') X z2) ∧ (t = false → Q (.bl false) ρ2 z2))) X z1) X z := propext Iff.rfl

/-! ## defs that call themselves: by fuel -/
theorem fn_none {P : Program} {w : World} {K : PySem.W.Frag} {mg : Str → Option Value} {base : Heap} {k n : Nat} {f : Addr} {fd : FuncData} {ps : List Str} (hn : n = ps.length) : FnG P w K mg base k f fd ps (spF K mg n fun _ _ _ _ => False) :=
  ⟨fun vs H Q E h => h.1.trans hn, fun A outer s H args us vs Q E _ _ _ _ _ h => by obtain ⟨_, _, _, _, _, _, _, _, _, _, h, _⟩ := h; exact h.elim⟩
theorem fn_noneO {P : Program} {w : World} {K : PySem.W.Frag} {mg : Str → Option Value} {base : Heap} {k n : Nat} {f : Addr} {fd : FuncData} {ps : List Str} (hn : n = ps.length) : FnG P w K mg base k f fd ps (spO K mg n fun _ _ _ _ => False) :=
  ⟨fun vs H Q E h => h.1.trans hn, fun A outer s H args us vs Q E _ _ _ _ _ h => by obtain ⟨_, _, _, _, _, _, _, _, _, _, h, _⟩ := h; exact h.elim⟩
theorem fn_some {P : Program} {w : World} {K : PySem.W.Frag} {mg : Str → Option Value} {base : Heap} {k n N : Nat} {f : Addr} {fd : FuncData} {ps : List Str} {m : Nat → List D → E0 D} (hn : n = ps.length) (h : ∀ i, i ≤ N → FnG P w K mg base k f fd ps (spF K mg n (m i))) :
    FnG P w K mg base k f fd ps (spF K mg n fun ds Q X z => ∃ i, i ≤ N ∧ m i ds Q X z) :=
  ⟨fun vs H Q E h => h.1.trans hn, fun A outer s H args us vs Q E h1 h2 h3 h4 h5 hs => by
    obtain ⟨hl, pa, F, z, ds, Qd, Xd, g1, g2, g3, ⟨i, hi, g4⟩, g5⟩ := hs
    exact (h i hi).run A outer s H args us vs Q E h1 h2 h3 h4 h5 ⟨hl, pa, F, z, ds, Qd, Xd, g1, g2, g3, g4, g5⟩⟩
theorem fn_someO {P : Program} {w : World} {K : PySem.W.Frag} {mg : Str → Option Value} {base : Heap} {k n N : Nat} {f : Addr} {fd : FuncData} {ps : List Str} {m : Nat → List D → E0 (List D)} (hn : n = ps.length) (h : ∀ i, i ≤ N → FnG P w K mg base k f fd ps (spO K mg n (m i))) :
    FnG P w K mg base k f fd ps (spO K mg n fun ds Q X z => ∃ i, i ≤ N ∧ m i ds Q X z) :=
  ⟨fun vs H Q E h => h.1.trans hn, fun A outer s H args us vs Q E h1 h2 h3 h4 h5 hs => by
    obtain ⟨hl, pa, F, z, ds, Qd, Xd, g1, g2, g3, ⟨i, hi, g4⟩, g5⟩ := hs
    exact (h i hi).run A outer s H args us vs Q E h1 h2 h3 h4 h5 ⟨hl, pa, F, z, ds, Qd, Xd, g1, g2, g3, g4, g5⟩⟩

/-! ## isinstance of data -/
def tyN : D → Option String
  | .non => some "NoneType"
  | .bl _ => some "bool"
  | .int _ => some "int"
  | .str _ => some "str"
  | .lst _ => some "list"
  | .tup _ => some "tuple"
  | _ => none
def dIsT (T : String) : P1 := fun d Q => ∃ t b, tyN d = some t ∧ kitB t T = some b ∧ Q (.bl b)
section
variable {X : Cx} {C : CC} {W : WX} {a : Expr} {ma : E D} {pos p p2 : Pos} {x : Str} {T : String}
theorem pe_tyN (hg : Gl X x) (hm : X.mg x = none) (hv : bootBuiltins x = some (.type T)) (hn : x ≠ "__name__" := by decide) (hdb : (x == ("__debug__" : Str)) = false := by decide) : PE X (.Name x p) (tC (.ty T)) :=
  ⟨fun pins s σ H Q I h => ld_blt I hg hm hv ⟨.ty T, H, I, rfl, h⟩ hn hdb⟩
theorem ty_of {F H : Hp} {v : V} {d : D} {t : String} (s : Same F H) (r : RT C F H v d) (h : tyN d = some t) : TyX C.K H v (.type t) := by
  cases d with
  | non => cases h; rw [RT.non r]; exact .base .non
  | bl b => cases h; rw [RT.bl r]; exact .base (.bl b)
  | int b => cases h; rw [RT.int r]; exact .base (.int b)
  | str b => cases h; rw [RT.str r]; exact .base (.str b)
  | lst ds =>
    cases h
    obtain ⟨a, xs, rfl, ha, _⟩ := RT.lst s r
    exact .base (.lst ha)
  | tup ds =>
    cases h
    obtain ⟨a, xs, rfl, ha, _⟩ := RT.tup s r
    rcases ha with (ha | ⟨o, ha⟩) | ⟨o, its, n, ho, hc, _⟩
    · exact .base (.tup ha)
    · exact .fTuple ha
    · exact .kTuple ho hc
  | _ => cases h
theorem xe_isT (hK : X.K = C.K) (ha : XP X C W a ma) (hg : Gl X "isinstance") (hm : X.mg "isinstance" = none) (h2 : PE X (.Name x p2) (tC (.ty T))) (hp : starEach (a :: [.Name x p2]) X.env = (false, eval a X.env) :: starEach [.Name x p2] X.env := by rfl) (hpl : (backTo pos (starEach [.Name x p2] X.env)).any (·.1) = false := by rfl) :
    XE X C W (.Call (.Name "isinstance" p) [a, .Name x p2] [] pos) (eb ma fun d => eP (dIsT T d)) := by
  obtain ⟨ta, a1, a2⟩ := ha.ex
  refine ⟨_, pe_callB L2.call_isi hg hm rfl (pa2 a1 h2 hp rfl) (by decide) (by decide) hp hpl, ?_⟩
  refine den_un (r := fun x H Q => rIsi X.K [x, .ty T] H Q) back_R a2 ?_
  refine op1_flat fun F H x dx Q Qd s rx hp hq => ?_
  obtain ⟨t, b, h1, h3, q⟩ := hp
  rw [hK]
  exact ⟨x, .ty T, .type t, .type T, b, rfl, .ty T, ty_of s rx h1, kit_ty h3, hq _ _ q (.bl b)⟩
end
@[simp] theorem dIsT_1 (T : String) (Q : D → Prop) : dIsT T .non Q = ∃ b, kitB "NoneType" T = some b ∧ Q (.bl b) := by simp [dIsT, tyN]
@[simp] theorem dIsT_2 (T : String) (v : Bool) (Q : D → Prop) : dIsT T (.bl v) Q = ∃ b, kitB "bool" T = some b ∧ Q (.bl b) := by simp [dIsT, tyN]
@[simp] theorem dIsT_3 (T : String) (v : Int) (Q : D → Prop) : dIsT T (.int v) Q = ∃ b, kitB "int" T = some b ∧ Q (.bl b) := by simp [dIsT, tyN]
@[simp] theorem dIsT_4 (T : String) (v : Str) (Q : D → Prop) : dIsT T (.str v) Q = ∃ b, kitB "str" T = some b ∧ Q (.bl b) := by simp [dIsT, tyN]
@[simp] theorem dIsT_5 (T : String) (v : List D) (Q : D → Prop) : dIsT T (.lst v) Q = ∃ b, kitB "list" T = some b ∧ Q (.bl b) := by simp [dIsT, tyN]
@[simp] theorem dIsT_6 (T : String) (v : List D) (Q : D → Prop) : dIsT T (.tup v) Q = ∃ b, kitB "tuple" T = some b ∧ Q (.bl b) := by simp [dIsT, tyN]
@[simp] theorem kb_NoneType_bool : kitB "NoneType" "bool" = some false := by decide +kernel
@[simp] theorem kb_NoneType_int : kitB "NoneType" "int" = some false := by decide +kernel
@[simp] theorem kb_NoneType_str : kitB "NoneType" "str" = some false := by decide +kernel
@[simp] theorem kb_NoneType_list : kitB "NoneType" "list" = some false := by decide +kernel
@[simp] theorem kb_NoneType_tuple : kitB "NoneType" "tuple" = some false := by decide +kernel
@[simp] theorem kb_bool_bool : kitB "bool" "bool" = some true := by decide +kernel
@[simp] theorem kb_bool_int : kitB "bool" "int" = some true := by decide +kernel
@[simp] theorem kb_bool_str : kitB "bool" "str" = some false := by decide +kernel
@[simp] theorem kb_bool_list : kitB "bool" "list" = some false := by decide +kernel
@[simp] theorem kb_bool_tuple : kitB "bool" "tuple" = some false := by decide +kernel
@[simp] theorem kb_int_bool : kitB "int" "bool" = some false := by decide +kernel
@[simp] theorem kb_int_int : kitB "int" "int" = some true := by decide +kernel
@[simp] theorem kb_int_str : kitB "int" "str" = some false := by decide +kernel
@[simp] theorem kb_int_list : kitB "int" "list" = some false := by decide +kernel
@[simp] theorem kb_int_tuple : kitB "int" "tuple" = some false := by decide +kernel
@[simp] theorem kb_str_bool : kitB "str" "bool" = some false := by decide +kernel
@[simp] theorem kb_str_int : kitB "str" "int" = some false := by decide +kernel
@[simp] theorem kb_str_str : kitB "str" "str" = some true := by decide +kernel
@[simp] theorem kb_str_list : kitB "str" "list" = some false := by decide +kernel
@[simp] theorem kb_str_tuple : kitB "str" "tuple" = some false := by decide +kernel
@[simp] theorem kb_list_bool : kitB "list" "bool" = some false := by decide +kernel
@[simp] theorem kb_list_int : kitB "list" "int" = some false := by decide +kernel
@[simp] theorem kb_list_str : kitB "list" "str" = some false := by decide +kernel
@[simp] theorem kb_list_list : kitB "list" "list" = some true := by decide +kernel
@[simp] theorem kb_list_tuple : kitB "list" "tuple" = some false := by decide +kernel
@[simp] theorem kb_tuple_bool : kitB "tuple" "bool" = some false := by decide +kernel
@[simp] theorem kb_tuple_int : kitB "tuple" "int" = some false := by decide +kernel
@[simp] theorem kb_tuple_str : kitB "tuple" "str" = some false := by decide +kernel
@[simp] theorem kb_tuple_list : kitB "tuple" "list" = some false := by decide +kernel
@[simp] theorem kb_tuple_tuple : kitB "tuple" "tuple" = some true := by decide +kernel
end DL

namespace DL
open PySem PySem.Spec PyProof.Rows L2

/-! ## a purse of one's own under a local name -/
mutual
def D.noC : D → Bool
  | .cel => false
  | .lst xs => noCL xs
  | .tup xs => noCL xs
  | .ins _ _ xs => noCL xs
  | .dic _ xs => noCL xs
  | .exn _ _ _ e => e.noC
  | _ => true
def noCL : List D → Bool
  | [] => true
  | x :: r => x.noC && noCL r
end
section
variable {K : PySem.W.Frag} {mg : Str → Option Value} {F : Hp} {q : Addr}
mutual
theorem Rp.toQ (hq : F q = none) : ∀ {d : D} {v : V}, Rp K mg none F v d → Rp K mg (some q) F v d
  | .non, _, h => by cases h; exact .non
  | .bl _, _, h => by cases h; exact .bl _
  | .int _, _, h => by cases h; exact .int _
  | .str _, _, h => by cases h; exact .str _
  | .lst _, _, h => by cases h with | lst n e r => exact .lst (fun w => by cases w; rw [hq] at e; cases e) e (RpL.toQ hq r)
  | .tup _, _, h => by cases h with | tup e r => exact .tup e (RpL.toQ hq r)
  | .cel, _, h => by cases h with | cel e => cases e
  | .ins _ _ _, _, h => by cases h with | ins g e l r => exact .ins g e l (RpL.toQ hq r)
  | .dic _ _, _, h => by cases h with | dic e l r => exact .dic e l (RpL.toQ hq r)
  | .exn _ _ _ _, _, h => by cases h with | exn e r => exact .exn e (Rp.toQ hq r)
  | .scr _, _, h => by cases h with | scr e => exact .scr e
theorem RpL.toQ (hq : F q = none) : ∀ {ds : List D} {vs : List V}, RpL K mg none F vs ds → RpL K mg (some q) F vs ds
  | [], _, h => by cases h; exact .nil
  | _ :: _, _, h => by cases h with | cons a b => exact .cons (Rp.toQ hq a) (RpL.toQ hq b)
end
mutual
theorem Rp.ofQ : ∀ {d : D} {v : V}, d.noC = true → Rp K mg (some q) F v d → Rp K mg none F v d
  | .non, _, _, h => by cases h; exact .non
  | .bl _, _, _, h => by cases h; exact .bl _
  | .int _, _, _, h => by cases h; exact .int _
  | .str _, _, _, h => by cases h; exact .str _
  | .lst _, _, c, h => by cases h with | lst n e r => exact .lst (by simp) e (RpL.ofQ c r)
  | .tup _, _, c, h => by cases h with | tup e r => exact .tup e (RpL.ofQ c r)
  | .cel, _, c, _ => by cases c
  | .ins _ _ _, _, c, h => by cases h with | ins g e l r => exact .ins g e l (RpL.ofQ c r)
  | .dic _ _, _, c, h => by cases h with | dic e l r => exact .dic e l (RpL.ofQ c r)
  | .exn _ _ _ _, _, c, h => by cases h with | exn e r => exact .exn e (Rp.ofQ c r)
  | .scr _, _, _, h => by cases h with | scr e => exact .scr e
theorem RpL.ofQ : ∀ {ds : List D} {vs : List V}, noCL ds = true → RpL K mg (some q) F vs ds → RpL K mg none F vs ds
  | [], _, _, h => by cases h; exact .nil
  | d :: r, _, c, h => by
    obtain ⟨c1, c2⟩ := Bool.and_eq_true_iff.mp (show (d.noC && noCL r) = true from c)
    cases h with | cons a b => exact .cons (Rp.ofQ c1 a) (RpL.ofQ c2 b)
end
end
/-- the slots without what holds the purse -/
def clnS : Sl → Sl
  | .fr d => if d.noC = true then .fr d else .no
  | .own ds => if noCL ds = true then .own ds else .no
  | .no => .no
def cln (ρ : Rho) : Rho := ρ.map clnS
theorem cln_get {ρ : Rho} {i : Nat} {s : Sl} (h : (cln ρ)[i]? = some s) : s = .no ∨ (ρ[i]? = some s ∧ clnS s = s) := by
  unfold cln at h
  rw [List.getElem?_map, Option.map_eq_some_iff] at h
  obtain ⟨t, h1, rfl⟩ := h
  cases t with
  | no => exact .inl rfl
  | fr d =>
    by_cases c : d.noC = true
    · have e : clnS (.fr d) = .fr d := by simp [clnS, c]
      rw [e]
      exact .inr ⟨h1, e⟩
    · exact .inl (by simp [clnS, c])
  | own d =>
    by_cases c : noCL d = true
    · have e : clnS (.own d) = .own d := by simp [clnS, c]
      rw [e]
      exact .inr ⟨h1, e⟩
    · exact .inl (by simp [clnS, c])
abbrev CC.wP (C : CC) (q : Addr) : CC := { C with pa := some q }
section
variable {C : CC} {σ : L2.St} {ρ : Rho} {F H : Hp} {z : Int} {q : Addr}
theorem StOk.toP (hp : C.pa = none) (S : StOk C σ ρ F H z) {x y : Int} (hf : F q = none) (hH : H q = some (.lst [.int x, .int y, .int 0])) (hx : 0 ≤ x) (hy : 0 ≤ y) (hy2 : y < 10 ^ 24 + 7)
    (no : ∀ (i : Nat) ys, ρ[i]? = some (.own ys) → σ[i]? ≠ some (some (.ref q))) (nh : q ∉ C.hid) (i : Nat) : StOk (C.wP q) (σ.set i (some (.ref q))) (ρ.set i (.fr .cel)) F H 0 := by
  obtain ⟨K, mg, pa, F0, H0, hid⟩ := C
  obtain rfl : pa = none := hp
  have S0 : StOk (CC.wP ⟨K, mg, none, F0, H0, hid⟩ q) σ ρ F H 0 := by
    refine ⟨S.sub, S.f0, fun b u e n => S.h0 b u e (by simp), S.nw, S.len, fun i v s e1 e2 => ?_, S.apart, fun r e => ?_, fun b hb => ?_⟩
    · have h := S.env i v s e1 e2
      cases s with
      | no => cases v <;> trivial
      | fr d =>
        cases v with
        | none => exact h.elim
        | some v => exact Rp.toQ hf h
      | own ds =>
        cases v with
        | none => exact h.elim
        | some v =>
          obtain ⟨a, xs, rfl, ha, hfa, h0, np, r, nh'⟩ := h
          have ne : a ≠ q := fun w => no i ds e2 (by rw [e1, w])
          exact ⟨a, xs, rfl, ha, hfa, h0, fun w => ne (Option.some.inj w), RpL.toQ hf r, nh'⟩
    · have er : r = q := (Option.some.inj e).symm
      subst er
      exact ⟨hf, x, y, hH, hx, hy, hy2, Int.le_refl 0⟩
    · obtain ⟨h1, h2, h3⟩ := S.hd b hb
      exact ⟨h1, h2, fun w => nh (by rw [← Option.some.inj w]; exact hb)⟩
  exact S0.setF i (v := .ref q) (d := .cel) (.cel rfl)
theorem StOk.ofP (hp : C.pa = none) (hq0 : C.H0 q = none) (S : StOk (C.wP q) σ ρ F H z) (z' : Int) : StOk C σ (cln ρ) F H z' := by
  obtain ⟨K, mg, pa, F0, H0, hid⟩ := C
  obtain rfl : pa = none := hp
  refine ⟨S.sub, S.f0, (fun b u e n => S.h0 b u e (fun w => by rw [Option.some.inj w, hq0] at e; cases e)), S.nw, (by unfold cln; rw [List.length_map]; exact S.len), fun i v s e1 e2 => ?_, fun i j x y a e1 e2 e3 e4 => ?_, (fun r e => by cases e), fun b hb => ?_⟩
  · rcases cln_get e2 with rfl | ⟨e3, e4⟩
    · cases v <;> trivial
    · have h := S.env i v s e1 e3
      cases s with
      | no => cases v <;> trivial
      | fr d =>
        cases v with
        | none => exact h.elim
        | some v =>
          have c : d.noC = true := by
            by_cases c : d.noC = true
            · exact c
            · simp [clnS, c] at e4
          exact Rp.ofQ c h
      | own ds =>
        cases v with
        | none => exact h.elim
        | some v =>
          have c : noCL ds = true := by
            by_cases c : noCL ds = true
            · exact c
            · simp [clnS, c] at e4
          obtain ⟨a, xs, rfl, ha, hfa, h0, np, r, nh'⟩ := h
          exact ⟨a, xs, rfl, ha, hfa, h0, by simp, RpL.ofQ c r, nh'⟩
  · rcases cln_get e1 with h | ⟨h1, _⟩
    · cases h
    · rcases cln_get e2 with h | ⟨h2, _⟩
      · cases h
      · exact S.apart i j x y a h1 h2 e3 e4
  · obtain ⟨h1, h2, h3⟩ := S.hd b hb
    exact ⟨h1, h2, by simp⟩
end
def offP (Q : Fl → Rho → Int → Prop) (z : Int) : Fl → Rho → Prop
  | .ret d, ρ => ∃ b, d = .bl b ∧ Q (.ret (.bl b)) (cln ρ) z
  | .retO _, _ => False
  | fl, ρ => Q fl (cln ρ) z
def fPurse (i : Nat) (mr : E Fl) : List D → E Fl
  | [.int x, .int y, .int 0] => fun ρ Q _ z => (0 ≤ x ∧ 0 ≤ y ∧ y < 10 ^ 24 + 7) ∧ mr (ρ.set i (.fr .cel)) (fun fl ρ' _ => offP Q z fl ρ') (fun _ _ _ => False) 0
  | _ => eStuck
section
variable {X : Cx} {C : CC} {W : WX} {e : Expr} {pos p : Pos} {x : Str} {rest : List Stmt} {mo : E (List D)} {mr : E Fl}
theorem xss_purse (i : Nat) (hp : C.pa = none) (h : XO X C W e mo) (hN : X.N.Nodup) (hi : X.N[i]? = some x) (hx : Loc X.env.scope x) (hr : ∀ q, XSs X (C.wP q) W rest mr) (hs : swapsWith e (some (.Name x p)) pos.line X.env = pure false := by rfl)
    (hf : X.fn x = true ∨ X.env.scope.names.lookup x = some .local := by first | exact .inl rfl | exact .inr rfl | assumption) : XSs X C W (.Assign [.Name x p] e pos :: rest) (eb mo (fPurse i mr)) := by
  obtain ⟨t, a1, a2⟩ := h.ex
  let tU : TS := fun D σ H => ∀ q : Addr, ∃ t, PSs X rest t ∧ t D σ H
  have pU : PSs X rest tU := by
    constructor
    intro pins s σ H D I h
    obtain ⟨t, h1, h2⟩ := h 0
    exact h1.run pins s σ H D I h2
  refine ⟨_, pss_cons (ps_set hN hi hx a1 hs hf) pU, fun σ ρ F H z Qd Xd Dn S hm hq hxx => ?_⟩
  refine a2 σ ρ F H z _ Xd (fun v H1 => gName i v σ H1 fun σ2 H2 => tU Dn σ2 H2) S hm (fun ds ρ1 z1 v F1 H1 q1 S1 ff1 k1 o1 ⟨q, xs, e1, e2, e3, e4, e5, e6⟩ => ?_) (fun e ρ' z' cls dd F' H' q S' ff r => hxx e ρ' z' cls dd σ F' H' q S' ff r)
  subst e1
  unfold fPurse at q1
  split at q1
  · rename_i a b _
    obtain ⟨⟨g1, g2, g3⟩, q1⟩ := q1
    cases e6 with | cons r1 e6 =>
    cases e6 with | cons r2 e6 =>
    cases e6 with | cons r3 e6 =>
    cases e6
    cases r1
    cases r2
    cases r3
    intro _
    obtain ⟨u, u1, u2⟩ := (hr q).ex
    have hq0 : C.H0 q = none := S.h0None e4 e5
    have S2 := S1.toP hp e3 e2 g1 g2 g3 (S.notOwn e4 o1) (S.notHid e4) i
    refine ⟨u, u1, u2 _ _ F1 H1 0 _ (fun _ _ _ => False) Dn S2 q1 (fun fl ρ' z' F' H' q2 ff => ?_) (fun e ρ' z' cls dd σ' F' H' q => q.elim)⟩
    cases fl with
    | nx => exact fun σ' S' => hq .nx _ z1 F' H' q2 (ff1.trans ff) σ' (S'.ofP hp hq0 z1)
    | bk => exact fun σ' S' => hq .bk _ z1 F' H' q2 (ff1.trans ff) σ' (S'.ofP hp hq0 z1)
    | ct => exact fun σ' S' => hq .ct _ z1 F' H' q2 (ff1.trans ff) σ' (S'.ofP hp hq0 z1)
    | ret d =>
      intro σ' v S' rv
      obtain ⟨b, rfl, q2⟩ := q2
      cases rv
      exact hq (.ret (.bl b)) _ z1 F' H' q2 (ff1.trans ff) σ' _ (S'.ofP hp hq0 z1) (.bl b)
    | retO d => exact False.elim q2
  · exact False.elim q1
end
@[simp] theorem fPurse_a (i : Nat) (mr : E Fl) (x y : Int) (ρ : Rho) (Q : Fl → Rho → Int → Prop) (X : Er → Rho → Int → Prop) (z : Int) : fPurse i mr [.int x, .int y, .int 0] ρ Q X z = ((0 ≤ x ∧ 0 ≤ y ∧ y < 10 ^ 24 + 7) ∧ mr (ρ.set i (.fr .cel)) (fun fl ρ' _ => offP Q z fl ρ') (fun _ _ _ => False) 0) := propext Iff.rfl
@[simp] theorem offP_1 (Q : Fl → Rho → Int → Prop) (z : Int) (ρ : Rho) : offP Q z .nx ρ = Q .nx (cln ρ) z := propext Iff.rfl
@[simp] theorem offP_2 (Q : Fl → Rho → Int → Prop) (z : Int) (ρ : Rho) (b : Bool) : offP Q z (.ret (.bl b)) ρ = Q (.ret (.bl b)) (cln ρ) z := propext ⟨fun ⟨_, e, h⟩ => by cases e; exact h, fun h => ⟨b, rfl, h⟩⟩
theorem kx_wP {X : Cx} {C : CC} {W : WX} {k : Nat} {q : Addr} (kx : Kx X C W k) : Kx X (C.wP q) W k := ⟨kx.hK, kx.hmg, kx.calm, kx.gu, kx.room, kx.tk, kx.nd, kx.po⟩

/-! ## a, b, c = x, y, z -/
def sPar3 (i j l : Nat) (ms : E (List D)) : E Fl := eb ms fun ds ρ Q _ z => match ds with
  | [d1, d2, d3] => Q .nx (((ρ.set i (.fr d1)).set j (.fr d2)).set l (.fr d3)) z
  | _ => False
theorem xs_par3 {X : Cx} {C : CC} {W : WX} {k : Nat} (i j l : Nat) {x y v : Str} {a b c : Expr} {px py pv pt pos : Pos} {kt k2 pt2} {ms : E (List D)} (kx : Kx X C W k) (hi : X.N[i]? = some x) (hj : X.N[j]? = some y) (hl : X.N[l]? = some v) (hij : i ≠ j) (hil : i ≠ l) (hjl : j ≠ l)
    (hx : X.env.scope.names.lookup x = some .local) (hy : X.env.scope.names.lookup y = some .local) (hv : X.env.scope.names.lookup v = some .local) (ha : XA X C W [a, b, c] ms)
    (hw : swappedStores [.Tuple [.Name x px, .Name y py, .Name v pv] kt pt] (.Tuple [a, b, c] k2 pt2) X.env = pure (some [x, y, v]))
    (hs : swapsWithSole [.Tuple [.Name x px, .Name y py, .Name v pv] kt pt] (.Tuple [a, b, c] k2 pt2) pos.line X.env = pure false := by rfl) :
    XS X C W (.Assign [.Tuple [.Name x px, .Name y py, .Name v pv] kt pt] (.Tuple [a, b, c] k2 pt2) pos) (sPar3 i j l ms) := by
  obtain ⟨t, a1, a2⟩ := ha.ex
  refine ⟨_, ps_par3 kx.calm kx.nd hi hj hl hij hil hjl hx hy hv a1 hw hs, fun σ ρ F H z Qd Xd Dn S hm hq hx => ?_⟩
  refine a2 σ ρ F H z _ Xd (fun vs H1 => ∃ u v w, vs = [u, v, w] ∧ Dn.nx (((σ.set i (some u)).set j (some v)).set l (some w)) H1) S hm (fun ds ρ1 z1 vs F1 H1 q1 S1 ff1 k1 o1 r1 => ?_) (fun e ρ' z' cls dd F' H' q S' ff r => hx e ρ' z' cls dd σ F' H' q S' ff r)
  dsimp only at q1
  split at q1
  · cases r1 with | cons r1 rr =>
    cases rr with | cons r2 rr =>
    cases rr with | cons r3 rr =>
    cases rr
    exact ⟨_, _, _, rfl, hq _ _ _ _ _ q1 ff1 _ (((S1.setF i r1).setF j r2).setF l r3)⟩
  · exact False.elim q1
@[simp] theorem sPar3_a (i j l : Nat) (ms : E (List D)) (ρ : Rho) (Q : Fl → Rho → Int → Prop) (X : Er → Rho → Int → Prop) (z : Int) : sPar3 i j l ms ρ Q X z = ms ρ (fun ds ρ' z' => match ds with
  | [d1, d2, d3] => Q .nx (((ρ'.set i (.fr d1)).set j (.fr d2)).set l (.fr d3)) z'
  | _ => False) X z := propext Iff.rfl
/-! ## int in a tuple of ints; is of bools; max, min of a list -/
theorem inV_int (i : Int) : ∀ ns : List Int, inV (.int i) (ns.map V.int) = ns.any fun n => decide (n = i)
  | [] => rfl
  | n :: r => by
    have ih := inV_int i r
    unfold inV at ih ⊢
    rw [List.map_cons, List.any_cons, List.any_cons, ih]
    congr 1
theorem flat_ints : ∀ ns : List Int, (ns.map V.int).all flatV = true
  | [] => rfl
  | n :: r => by
    rw [List.map_cons, List.all_cons, flat_ints r]
    rfl
def dInT : P2
  | .int i, .tup ds, Q => ∃ ns, intsOf ds = some ns ∧ Q (.bl (ns.any fun n => decide (n = i)))
  | _, _, _ => False
def dNotInT : P2
  | .int i, .tup ds, Q => ∃ ns, intsOf ds = some ns ∧ Q (.bl (!ns.any fun n => decide (n = i)))
  | _, _, _ => False
section
variable {C : CC} {W : WX}
theorem o_inT : Op2 C W (rIn C.K false) (fun a b => eP (dInT a b)) (kR C) := op2_flat fun F H x y dx dy Q Qd s rx ry hp hq => by
  cases dx with
  | int i =>
    cases dy with
    | tup ds =>
      obtain ⟨ns, h1, q⟩ := hp
      obtain rfl := RT.int rx
      obtain ⟨a, xs, rfl, ha, r⟩ := RT.tup s ry
      have e := RpL.ints r h1
      subst e
      refine ⟨a, _, rfl, .inr ha, rfl, flat_ints ns, ?_⟩
      rw [if_neg Bool.false_ne_true, inV_int]
      exact hq _ _ q (.bl _)
    | _ => exact hp.elim
  | _ => exact hp.elim
theorem o_notInT : Op2 C W (rIn C.K true) (fun a b => eP (dNotInT a b)) (kR C) := op2_flat fun F H x y dx dy Q Qd s rx ry hp hq => by
  cases dx with
  | int i =>
    cases dy with
    | tup ds =>
      obtain ⟨ns, h1, q⟩ := hp
      obtain rfl := RT.int rx
      obtain ⟨a, xs, rfl, ha, r⟩ := RT.tup s ry
      have e := RpL.ints r h1
      subst e
      refine ⟨a, _, rfl, .inr ha, rfl, flat_ints ns, ?_⟩
      rw [if_pos rfl, inV_int]
      exact hq _ _ q (.bl _)
    | _ => exact hp.elim
  | _ => exact hp.elim
def dIsB : P2
  | .bl a, .bl b, Q => Q (.bl (decide (a = b)))
  | _, _, _ => False
def dNotB : P2
  | .bl a, .bl b, Q => Q (.bl (!decide (a = b)))
  | _, _, _ => False
theorem o_isB : Op2 C W (fun x y H Q => ∃ a b, x = .bl a ∧ y = .bl b ∧ Q (.bl (decide (a = b))) H) (fun a b => eP (dIsB a b)) (kR C) := op2_flat fun F H x y dx dy Q Qd s rx ry hp hq => by
  cases dx <;> cases dy <;> first | exact hp.elim | exact ⟨_, _, rx.bl, ry.bl, hq _ _ hp (.bl _)⟩
theorem o_notB : Op2 C W (fun x y H Q => ∃ a b, x = .bl a ∧ y = .bl b ∧ Q (.bl (!decide (a = b))) H) (fun a b => eP (dNotB a b)) (kR C) := op2_flat fun F H x y dx dy Q Qd s rx ry hp hq => by
  cases dx <;> cases dy <;> first | exact hp.elim | exact ⟨_, _, rx.bl, ry.bl, hq _ _ hp (.bl _)⟩
def dMaxL : P1
  | .lst ds, Q => ∃ ns, intsOf ds = some ns ∧ 0 < ns.length ∧ ∀ m, m ∈ ns → (∀ y, y ∈ ns → y ≤ m) → Q (.int m)
  | _, _ => False
def dMinL : P1
  | .lst ds, Q => ∃ ns, intsOf ds = some ns ∧ 0 < ns.length ∧ ∀ m, m ∈ ns → (∀ y, y ∈ ns → m ≤ y) → Q (.int m)
  | _, _ => False
theorem o_maxL : Op1 C W (fun x H Q => rMax C.K [x] H Q) (fun d => eP (dMaxL d)) (kR C) := op1_flat fun F H x dx Q Qd s rx hp hq => by
  cases dx with
  | lst ds =>
    obtain ⟨ns, h1, h2, q⟩ := hp
    obtain ⟨a, xs, rfl, ha, r, _⟩ := RT.lst s rx
    have e := RpL.ints r h1
    subst e
    exact ⟨a, ns, rfl, .inl (.inl ha), h2, fun m m1 m2 => hq _ _ (q m m1 m2) (.int m)⟩
  | _ => exact hp.elim
theorem o_minL : Op1 C W (fun x H Q => rMin C.K [x] H Q) (fun d => eP (dMinL d)) (kR C) := op1_flat fun F H x dx Q Qd s rx hp hq => by
  cases dx with
  | lst ds =>
    obtain ⟨ns, h1, h2, q⟩ := hp
    obtain ⟨a, xs, rfl, ha, r, _⟩ := RT.lst s rx
    have e := RpL.ints r h1
    subst e
    exact ⟨a, ns, rfl, .inl (.inl ha), h2, fun m m1 m2 => hq _ _ (q m m1 m2) (.int m)⟩
  | _ => exact hp.elim
theorem xe_max1 {X : Cx} {k : Nat} {a : Expr} {ma : E D} {p pos : Pos} (kx : Kx X C W k) (hg : Gl X "max") (hm : X.mg "max" = none) (ha : XP X C W a ma) (h1 : S1 X a := by rfl) : XE X C W (.Call (.Name "max" p) [a] [] pos) (eb ma fun d => eP (dMaxL d)) := xe_b1 (cr_max kx.calm) (by rw [kx.hK]; exact o_maxL) ha hg hm rfl (by decide) (by decide) h1
theorem xe_min1 {X : Cx} {k : Nat} {a : Expr} {ma : E D} {p pos : Pos} (kx : Kx X C W k) (hg : Gl X "min") (hm : X.mg "min" = none) (ha : XP X C W a ma) (h1 : S1 X a := by rfl) : XE X C W (.Call (.Name "min" p) [a] [] pos) (eb ma fun d => eP (dMinL d)) := xe_b1 (cr_min kx.calm) (by rw [kx.hK]; exact o_minL) ha hg hm rfl (by decide) (by decide) h1
end
@[simp] theorem dInT_1 (i : Int) (ds : List D) (Q : D → Prop) : dInT (.int i) (.tup ds) Q = ∃ ns, intsOf ds = some ns ∧ Q (.bl (ns.any fun n => decide (n = i))) := propext Iff.rfl
@[simp] theorem dNotInT_1 (i : Int) (ds : List D) (Q : D → Prop) : dNotInT (.int i) (.tup ds) Q = ∃ ns, intsOf ds = some ns ∧ Q (.bl (!ns.any fun n => decide (n = i))) := propext Iff.rfl
@[simp] theorem dIsB_1 (a b : Bool) (Q : D → Prop) : dIsB (.bl a) (.bl b) Q = Q (.bl (decide (a = b))) := propext Iff.rfl
@[simp] theorem dNotB_1 (a b : Bool) (Q : D → Prop) : dNotB (.bl a) (.bl b) Q = Q (.bl (!decide (a = b))) := propext Iff.rfl
@[simp] theorem dMaxL_1 (ds : List D) (Q : D → Prop) : dMaxL (.lst ds) Q = ∃ ns, intsOf ds = some ns ∧ 0 < ns.length ∧ ∀ m, m ∈ ns → (∀ y, y ∈ ns → y ≤ m) → Q (.int m) := propext Iff.rfl
@[simp] theorem dMinL_1 (ds : List D) (Q : D → Prop) : dMinL (.lst ds) Q = ∃ ns, intsOf ds = some ns ∧ 0 < ns.length ∧ ∀ m, m ∈ ns → (∀ y, y ∈ ns → m ≤ y) → Q (.int m) := propext Iff.rfl
@[simp] theorem intsOf_0 : intsOf [] = some [] := by unfold intsOf; exact Eq.refl _
@[simp] theorem intsOf_1 (b : Int) (r : List D) : intsOf (.int b :: r) = (intsOf r).map (b :: ·) := by rw [intsOf]
end DL

namespace DL
open PySem PySem.Spec PyProof.Rows L2

section
variable {X : Cx} {C : CC} {W : WX} {e a b : Expr} {m ma mb : E D} {pos p : Pos} {k : Nat} {x y : Str}
theorem xo_op {op : Operator} {r : R2} {f : D → D → E (List D)} (h : OpR X (binaryOp op) r) (ho : Op2 C W r f (RO C)) (ha : XP X C W a ma) (hb : XP X C W b mb) : XO X C W (.BinOp a op b pos) (eb ma fun x => eb mb fun y => f x y) := by
  obtain ⟨ta, a1, a2⟩ := ha.ex
  obtain ⟨tb, b1, b2⟩ := hb.ex
  exact ⟨_, pe_op h a1 b1, den_op back_O a2 b2 ho⟩
/-! ## x += e of ints -/
def sAug (f : Int → Int → Int) (i : Nat) (m : E D) : E Fl := fun ρ Q X z => match ρ[i]? with
  | some (.fr (.int a)) => m ρ (fun d ρ' z' => match d with
    | .int b => Q .nx (ρ'.set i (.fr (.int (f a b)))) z'
    | _ => False) X z
  | _ => False
theorem xs_aug {op : Operator} {f : Int → Int → Int} (i : Nat) {pos' : Pos} (ho : PIp X op (ipI f)) (hN : X.N.Nodup) (hi : X.N[i]? = some x) (hx : Loc X.env.scope x) (he : XP X C W e m) (hf : X.fn x = true ∨ X.env.scope.names.lookup x = some .local := by first | exact .inl rfl | exact .inr rfl | assumption) :
    XS X C W (.AugAssign (.Name x pos') op e pos) (sAug f i m) := by
  obtain ⟨t, h1, h2⟩ := he.ex
  refine ⟨_, ps_aug hN hi hx h1 ho hf, fun σ ρ F H z Qd Xd Dn S hm hq hxx => ?_⟩
  unfold sAug at hm
  cases e0 : ρ[i]? with
  | none => rw [e0] at hm; exact hm.elim
  | some s =>
    rw [e0] at hm
    obtain ⟨v, e1, r⟩ := st_get S e0
    cases s with
    | no => exact hm.elim
    | own ds => exact hm.elim
    | fr d =>
      cases v with
      | none => exact r.elim
      | some v =>
        cases d with
        | int a =>
          have r' : C.R F v (.int a) := r
          cases r'
          refine ⟨_, e1, h2 σ ρ F H z _ Xd (fun y H1 => ipI f (.int a) y H1 fun w H2 => Dn.nx (σ.set i (some w)) H2) S hm (fun d ρ1 z1 v F1 H1 q1 S1 ff1 k1 o1 r1 => ?_) (fun e ρ' z' cls dd F' H' q S' ff r => hxx e ρ' z' cls dd σ F' H' q S' ff r)⟩
          cases d with
          | int b =>
            obtain rfl := RT.int r1
            exact ⟨a, b, rfl, rfl, hq _ _ _ _ _ q1 ff1 _ (S1.setF i (.int _))⟩
          | _ => exact False.elim q1
        | _ => exact hm.elim
/-! ## a, b = x, y where one is a new list -/
theorem kx_hide {q : Addr} (kx : Kx X C W k) : Kx X (C.hide q) W k := ⟨kx.hK, kx.hmg, kx.calm, kx.gu, kx.room, kx.tk, kx.nd, kx.po⟩
theorem StOk.hideO {σ : L2.St} {ρ : Rho} {F H : Hp} {z : Int} {q : Addr} {o : HO} (S : StOk C σ ρ F H z) (hf : F q = none) (hp : H q = some o) (np : some q ≠ C.pa) (no : ∀ (i : Nat) ys, ρ[i]? = some (.own ys) → σ[i]? ≠ some (some (.ref q))) : StOk (C.hide q) σ ρ F H z :=
  ⟨S.sub, S.f0, S.h0, S.nw, S.len, fun i v s e1 e2 => by
    have h := S.env i v s e1 e2
    cases s with
    | no => cases v <;> trivial
    | fr d =>
      cases v with
      | none => exact h.elim
      | some v => exact h
    | own ds =>
      cases v with
      | none => exact h.elim
      | some v =>
        obtain ⟨a, xs, rfl, ha, hf', h0, np', r, nh⟩ := h
        exact ⟨a, xs, rfl, ha, hf', h0, np', r, fun m => (List.mem_cons.mp m).elim (fun w => no i ds e2 (by rw [e1, w])) nh⟩, S.apart, S.pz, fun b hb => by
    rcases List.mem_cons.mp hb with e | hb
    · subst e
      exact ⟨hf, ⟨o, hp⟩, np⟩
    · exact S.hd b hb⟩
def sParOF (i j : Nat) (mo : E (List D)) (me : E D) : E Fl := eb mo fun ds => eb me fun d ρ Q _ z => Q .nx ((ρ.set i (.own ds)).set j (.fr d)) z
theorem xs_parOF (i j : Nat) {px py pt : Pos} {kt k2 pt2} {mo : E (List D)} {me : E D} (kx : Kx X C W k) (hi : X.N[i]? = some x) (hj : X.N[j]? = some y) (hij : i ≠ j)
    (hx : X.env.scope.names.lookup x = some .local) (hy : X.env.scope.names.lookup y = some .local) (ha : XO X C W a mo) (hb : ∀ q, XE X (C.hide q) W b me)
    (hw : swappedStores [.Tuple [.Name x px, .Name y py] kt pt] (.Tuple [a, b] k2 pt2) X.env = pure (some [x, y]))
    (hs : swapsWithSole [.Tuple [.Name x px, .Name y py] kt pt] (.Tuple [a, b] k2 pt2) pos.line X.env = pure false := by rfl) (hp : starEach (a :: [b]) X.env = (false, eval a X.env) :: starEach [b] X.env := by rfl) (h1 : S1 X b := by rfl) :
    XS X C W (.Assign [.Tuple [.Name x px, .Name y py] kt pt] (.Tuple [a, b] k2 pt2) pos) (sParOF i j mo me) := by
  obtain ⟨ta, a1, a2⟩ := ha.ex
  let tU : TE := fun σ H Q => ∀ q : Addr, ∃ t, PE X b t ∧ t σ H Q
  have pU : PE X b tU := ⟨fun pins s σ H Q I h => by
    obtain ⟨t, g1, g2⟩ := h 0
    exact g1.run pins s σ H Q I g2⟩
  refine ⟨_, ps_par kx.calm kx.nd hi hj hij hx hy (pa2 a1 pU hp h1) hw hs, fun σ ρ F H z Qd Xd Dn S hm hq hxx => ?_⟩
  refine a2 σ ρ F H z _ Xd (fun u H1 => tU σ H1 fun v H2 => ∃ v' w', ([u, v] : List V) = [v', w'] ∧ Dn.nx ((σ.set i (some v')).set j (some w')) H2) S hm (fun ds ρ1 z1 u F1 H1 q1 S1 ff1 k1 o1 ⟨q, xs, e1, e2, e3, e4, e5, e6⟩ => ?_) (fun e ρ' z' cls dd F' H' q S' ff r => hxx e ρ' z' cls dd σ F' H' q S' ff r)
  subst e1
  intro _
  obtain ⟨tb, b1, b2⟩ := (hb q).ex
  have no1 := S.notOwn e4 o1
  have Sh := S1.hideO e3 e2 e5 no1
  refine ⟨tb, b1, b2 σ ρ1 F1 H1 z1 _ Xd _ Sh q1 (fun d ρ2 z2 v F2 H2 q2 S2 ff2 k2 o2 r2 => ?_) (fun e ρ' z' cls dd F' H' q S' ff r => hxx e ρ' z' cls dd σ F' H' q S'.unhide (ff1.trans ff) r)⟩
  obtain ⟨f2, _, _⟩ := S2.hd q List.mem_cons_self
  have h2 : H2 q = some (.lst xs) := k2 q _ e2 e5
  refine ⟨_, _, rfl, hq .nx _ z2 F2 H2 q2 (ff1.trans ff2) _ ?_⟩
  exact (S2.unhide.setO i h2 f2 (S.h0None e4 e5) e5 (RpL.mono ff2 e6) (S.notOwn e4 (o2.trans o1)) (S.notHid e4)).setF j r2
def sParFO (i j : Nat) (me : E D) (mo : E (List D)) : E Fl := eb me fun d => eb mo fun ds ρ Q _ z => Q .nx ((ρ.set i (.fr d)).set j (.own ds)) z
theorem xs_parFO (i j : Nat) {px py pt : Pos} {kt k2 pt2} {mo : E (List D)} {me : E D} (kx : Kx X C W k) (hi : X.N[i]? = some x) (hj : X.N[j]? = some y) (hij : i ≠ j)
    (hx : X.env.scope.names.lookup x = some .local) (hy : X.env.scope.names.lookup y = some .local) (ha : XE X C W a me) (hb : XO X C W b mo)
    (hw : swappedStores [.Tuple [.Name x px, .Name y py] kt pt] (.Tuple [a, b] k2 pt2) X.env = pure (some [x, y]))
    (hs : swapsWithSole [.Tuple [.Name x px, .Name y py] kt pt] (.Tuple [a, b] k2 pt2) pos.line X.env = pure false := by rfl) (hp : starEach (a :: [b]) X.env = (false, eval a X.env) :: starEach [b] X.env := by rfl) (h1 : S1 X b := by rfl) :
    XS X C W (.Assign [.Tuple [.Name x px, .Name y py] kt pt] (.Tuple [a, b] k2 pt2) pos) (sParFO i j me mo) := by
  obtain ⟨ta, a1, a2⟩ := ha.ex
  obtain ⟨tb, b1, b2⟩ := hb.ex
  refine ⟨_, ps_par kx.calm kx.nd hi hj hij hx hy (pa2 a1 b1 hp h1) hw hs, fun σ ρ F H z Qd Xd Dn S hm hq hxx => ?_⟩
  refine a2 σ ρ F H z _ Xd (fun u H1 => tb σ H1 fun v H2 => ∃ v' w', ([u, v] : List V) = [v', w'] ∧ Dn.nx ((σ.set i (some v')).set j (some w')) H2) S hm (fun d ρ1 z1 u F1 H1 q1 S1 ff1 k1 o1 r1 => ?_) (fun e ρ' z' cls dd F' H' q S' ff r => hxx e ρ' z' cls dd σ F' H' q S' ff r)
  refine b2 σ ρ1 F1 H1 z1 _ Xd _ S1 q1 (fun ds ρ2 z2 v F2 H2 q2 S2 ff2 k2 o2 ⟨q, xs, e1, e2, e3, e4, e5, e6⟩ => ?_) (fun e ρ' z' cls dd F' H' q S' ff r => hxx e ρ' z' cls dd σ F' H' q S' (ff1.trans ff) r)
  subst e1
  refine ⟨_, _, rfl, hq .nx _ z2 F2 H2 q2 (ff1.trans ff2) _ ?_⟩
  have Sf := S2.setF i (Rp.mono ff2 r1)
  refine Sf.setO j e2 e3 (S1.h0None e4 e5) e5 e6 (fun l ys g1 g2 => ?_) (S1.notHid e4)
  rcases get_set g1 with ⟨_, h, _⟩ | ⟨hne, h⟩
  · cases h
  · rw [List.getElem?_set_ne (Ne.symm hne)] at g2
    exact S1.notOwn e4 o2 l ys h g2
end
@[simp] theorem sAug_a (f : Int → Int → Int) (i : Nat) (m : E D) (t : Sl) (ρ : Rho) (Q : Fl → Rho → Int → Prop) (X : Er → Rho → Int → Prop) (z : Int) : sAug f i m (t :: ρ) Q X z = (match (t :: ρ)[i]? with
  | some (.fr (.int a)) => m (t :: ρ) (fun d ρ' z' => match d with
    | .int b => Q .nx (ρ'.set i (.fr (.int (f a b)))) z'
    | _ => False) X z
  | _ => False) := propext Iff.rfl
@[simp] theorem sParOF_a (i j : Nat) (mo : E (List D)) (me : E D) (ρ : Rho) (Q : Fl → Rho → Int → Prop) (X : Er → Rho → Int → Prop) (z : Int) : sParOF i j mo me ρ Q X z = mo ρ (fun ds ρ1 z1 => me ρ1 (fun d ρ2 z2 => Q .nx ((ρ2.set i (.own ds)).set j (.fr d)) z2) X z1) X z := propext Iff.rfl
@[simp] theorem sParFO_a (i j : Nat) (mo : E (List D)) (me : E D) (ρ : Rho) (Q : Fl → Rho → Int → Prop) (X : Er → Rho → Int → Prop) (z : Int) : sParFO i j me mo ρ Q X z = me ρ (fun d ρ1 z1 => mo ρ1 (fun ds ρ2 z2 => Q .nx ((ρ2.set i (.fr d)).set j (.own ds)) z2) X z1) X z := propext Iff.rfl

/-! ## [..] * n -/
def fRep : D → D → E (List D)
  | .lst ds, .int k => fun ρ Q _ z => (-(2 ^ 63) ≤ k ∧ k < 2 ^ 63 ∧ ds.length * k.toNat ≤ 16777216) ∧ Q (List.replicate k.toNat ds).flatten ρ z
  | _, _ => eStuck
abbrev bM (ma mb : E D) : E (List D) := eb ma fun x => eb mb fun y => fRep x y
theorem RpL.rep {K : PySem.W.Frag} {mg : Str → Option Value} {pa : Option Addr} {F : Hp} {vs : List V} {ds : List D} (h : RpL K mg pa F vs ds) : ∀ n : Nat, RpL K mg pa F (List.replicate n vs).flatten (List.replicate n ds).flatten
  | 0 => .nil
  | n + 1 => by
    rw [List.replicate_succ, List.replicate_succ, List.flatten_cons, List.flatten_cons]
    exact RpL.append h (RpL.rep h n)
theorem o_rep {C : CC} {W : WX} : Op2 C W rRep fRep (RO C) := fun σ ρ F H z x y dx dy Qd Xd Q S rx ry hm hq hx => by
  unfold fRep at hm
  split at hm
  · obtain ⟨⟨h1, h2, h3⟩, hm⟩ := hm
    obtain rfl := RT.int ry
    obtain ⟨a, xs, rfl, ha, r, _⟩ := RT.lst S.sub rx
    exact ⟨a, _, xs, rfl, rfl, ha, h1, h2, by rw [RpL.length r]; exact line_le h3, fun p hp => S.newL hp (RpL.rep r _) hm hq⟩
  · exact False.elim hm
@[simp] theorem fRep_1 (ds : List D) (k : Int) (ρ : Rho) (Q : List D → Rho → Int → Prop) (X : Er → Rho → Int → Prop) (z : Int) : fRep (.lst ds) (.int k) ρ Q X z = ((-(2 ^ 63) ≤ k ∧ k < 2 ^ 63 ∧ ds.length * k.toNat ≤ 16777216) ∧ Q (List.replicate k.toNat ds).flatten ρ z) := propext Iff.rfl

/-! ## the same where the names are no plain locals: a tuple is laid and taken apart -/
section
variable {X : Cx} {C : CC} {W : WX} {a b : Expr} {pos : Pos} {k : Nat} {x y : Str}
theorem xs_parFO2 (i j : Nat) {px py pt : Pos} {kt k2 pt2} {mo : E (List D)} {me : E D} (kx : Kx X C W k) (hgi : PG X (.Name x px) (gName i)) (hgj : PG X (.Name y py) (gName j)) (hij : i ≠ j) (ha : XE X C W a me) (hb : XO X C W b mo)
    (hw : swappedStores [.Tuple [.Name x px, .Name y py] kt pt] (.Tuple [a, b] k2 pt2) X.env = pure none)
    (hs : swapsWithSole [.Tuple [.Name x px, .Name y py] kt pt] (.Tuple [a, b] k2 pt2) pos.line X.env = pure false := by rfl) (hp : starEach (a :: [b]) X.env = (false, eval a X.env) :: starEach [b] X.env := by rfl) (h1 : S1 X b := by rfl)
    (g1 : (assignEach [.Name x px, .Name y py] X.env).map (·.2) = assign (.Name x px) X.env :: (assignEach [.Name y py] X.env).map (·.2) := by rfl) (g2 : (assignEach [.Name y py] X.env).map (·.2) = assign (.Name y py) X.env :: (assignEach [] X.env).map (·.2) := by rfl)
    (hn : (assignEach [.Name x px, .Name y py] X.env).length = 2 := by rfl) (hst : (assignEach [.Name x px, .Name y py] X.env).findIdx? (·.1) = none := by rfl)
    (ht : (assignEach [.Tuple [.Name x px, .Name y py] kt pt] X.env).map (·.2) = [assign (.Tuple [.Name x px, .Name y py] kt pt) X.env] := by rfl) :
    XS X C W (.Assign [.Tuple [.Name x px, .Name y py] kt pt] (.Tuple [a, b] k2 pt2) pos) (sParFO i j me mo) := by
  obtain ⟨ta, a1, a2⟩ := ha.ex
  obtain ⟨tb, b1, b2⟩ := hb.ex
  refine ⟨_, ps_asg (pe_tup (pa2 a1 b1 hp h1)) (pg_tup kx.calm (pgs_cons hgi (pgs_cons hgj pgs_nil g2) g1) hn hst) hs hw ht, fun σ ρ F H z Qd Xd Dn S hm hq hxx => ?_⟩
  refine a2 σ ρ F H z _ Xd _ S hm (fun d ρ1 z1 u F1 H1 q1 S1 ff1 k1 o1 r1 => ?_) (fun e ρ' z' cls dd F' H' q S' ff r => hxx e ρ' z' cls dd σ F' H' q S' ff r)
  refine b2 σ ρ1 F1 H1 z1 _ Xd _ S1 q1 (fun ds ρ2 z2 v F2 H2 q2 S2 ff2 k2 o2 ⟨q, xs, e1, e2, e3, e4, e5, e6⟩ => ?_) (fun e ρ' z' cls dd F' H' q S' ff r => hxx e ρ' z' cls dd σ F' H' q S' (ff1.trans ff) r)
  subst e1
  refine ⟨by show 2 ≤ sizeLine; rw [sizeLine_eq]; omega, fun t ht0 => ?_⟩
  have ne : q ≠ t := fun w => by rw [w, ht0] at e2; cases e2
  refine ⟨t, [u, .ref q], rfl, .inl (.inl upd_same), rfl, u, [.ref q], rfl, .ref q, [], rfl, rfl, ?_⟩
  have S3 := S2.newH (o := .tup [u, .ref q]) ht0
  have Sf := S3.setF i (Rp.mono ff2 r1)
  refine hq .nx _ z2 F2 _ q2 (ff1.trans ff2) _ (Sf.setO j (by rw [upd_ne ne]; exact e2) e3 (S1.h0None e4 e5) e5 e6 (fun l ys g1 g2 => ?_) (S1.notHid e4))
  rcases get_set g1 with ⟨_, h, _⟩ | ⟨hne, h⟩
  · cases h
  · rw [List.getElem?_set_ne (Ne.symm hne)] at g2
    exact S1.notOwn e4 o2 l ys h g2
end
end DL

namespace DL
open PySem PySem.Spec PyProof.Rows L2

/-! ## a call that only reads one's own lists: what was frozen for it is taken back -/
mutual
def D.noL : D → Bool
  | .lst _ => false
  | .scr _ => false
  | .tup ds => noLL ds
  | .ins _ _ ds => noLL ds
  | .dic _ ds => noLL ds
  | .exn _ _ _ e => e.noL
  | _ => true
def noLL : List D → Bool
  | [] => true
  | d :: r => d.noL && noLL r
end
open Classical in
noncomputable def cutF (P : Addr → Prop) (F : Hp) : Hp := fun b => if P b then none else F b
section
variable {K : PySem.W.Frag} {mg : Str → Option Value} {pa : Option Addr} {F H : Hp} {P : Addr → Prop}
theorem cutF_sub : Same (cutF P F) F := fun b u e => by
  unfold cutF at e
  split at e
  · cases e
  · exact e
theorem cutF_in {a : Addr} {o : HO} (sub : Same F H) (hP : ∀ b, P b → ∃ xs, H b = some (.lst xs)) (h : F a = some o) (n : ∀ xs, o ≠ .lst xs) : cutF P F a = some o := by
  unfold cutF
  rw [if_neg fun p => ?_]
  · exact h
  · obtain ⟨xs, e⟩ := hP a p
    have := sub _ _ h
    rw [e] at this
    cases this
    exact n xs rfl
theorem cutF_rd {a : Addr} {u : HO} (sub : Same F H) (hP : ∀ b, P b → ∃ xs, H b = some (.lst xs)) (n : ∀ xs, u ≠ .lst xs) (h : Rd F a u) : Rd (cutF P F) a u := by
  rcases h with h | ⟨o, h⟩
  · exact .inl (cutF_in sub hP h n)
  · exact .inr ⟨o, cutF_in sub hP h (fun _ e => by cases e)⟩
mutual
theorem Rp.rl (sub : Same F H) (hP : ∀ b, P b → ∃ xs, H b = some (.lst xs)) : ∀ {d : D} {v : V}, d.noL = true → Rp K mg pa F v d → Rp K mg pa (cutF P F) v d
  | .non, _, _, h => by cases h; exact .non
  | .bl _, _, _, h => by cases h; exact .bl _
  | .int _, _, _, h => by cases h; exact .int _
  | .str _, _, _, h => by cases h; exact .str _
  | .lst _, _, c, _ => by cases c
  | .tup _, _, c, h => by cases h with | tup e r => exact .tup (e.elim (fun w => .inl (cutF_rd sub hP (fun _ q => by cases q) w)) .inr) (RpL.rl sub hP c r)
  | .cel, _, _, h => by cases h with | cel e => exact .cel e
  | .ins _ _ _, _, c, h => by cases h with | ins g e l r => exact .ins g (cutF_in sub hP e (fun _ q => by cases q)) l (RpL.rl sub hP c r)
  | .dic _ _, _, c, h => by cases h with | dic e l r => exact .dic (cutF_rd sub hP (fun _ q => by cases q) e) l (RpL.rl sub hP c r)
  | .exn _ _ _ _, _, c, h => by cases h with | exn e r => exact .exn (cutF_in sub hP e (fun _ q => by cases q)) (Rp.rl sub hP c r)
  | .scr _, _, c, _ => by cases c
theorem RpL.rl (sub : Same F H) (hP : ∀ b, P b → ∃ xs, H b = some (.lst xs)) : ∀ {ds : List D} {vs : List V}, noLL ds = true → RpL K mg pa F vs ds → RpL K mg pa (cutF P F) vs ds
  | [], _, _, h => by cases h; exact .nil
  | d :: r, _, c, h => by
    obtain ⟨c1, c2⟩ := Bool.and_eq_true_iff.mp (show (d.noL && noLL r) = true from c)
    cases h with | cons a b => exact .cons (Rp.rl sub hP c1 a) (RpL.rl sub hP c2 b)
end
end
section
variable {C : CC} {W : WX} {X : Cx} {e : Expr} {σ : L2.St} {ρ ρ' : Rho} {F F' H H' : Hp} {z z' : Int}
/-- where the own lists lie -/
def OwnA (σ : L2.St) (ρ : Rho) (b : Addr) : Prop := ∃ (i : Nat) (ds : List D), ρ[i]? = some (.own ds) ∧ σ[i]? = some (some (.ref b))
theorem StOk.ownL (S : StOk C σ ρ F H z) (hk : Keep C.pa H H') : ∀ b, OwnA σ ρ b → ∃ xs, H' b = some (.lst xs) := fun b ⟨i, ds, e1, e2⟩ => by
  obtain ⟨a, xs, e3, ha, hf, h0, np, r, nh⟩ := S.env i _ _ e2 e1
  cases e3
  exact ⟨xs, hk b _ ha np⟩
theorem StOk.roll (S : StOk C σ ρ F H z) (S' : StOk C σ ρ' F' H' z') (ff : Same F F') (hk : Keep C.pa H H') : StOk C σ ρ (cutF (OwnA σ ρ) F') H' z' ∧ Same F (cutF (OwnA σ ρ) F') := by
  have fc : Same F (cutF (OwnA σ ρ) F') := fun b o h => by
    unfold cutF
    have np : ¬ OwnA σ ρ b := fun ⟨i, ds, e1, e2⟩ => by
      obtain ⟨a, xs, e3, ha, hf, _⟩ := S.env i _ _ e2 e1
      cases e3
      rw [h] at hf
      cases hf
    rw [if_neg np]
    exact ff _ _ h
  have cn : ∀ b, F' b = none → cutF (OwnA σ ρ) F' b = none := fun b h => by
    unfold cutF
    split
    · rfl
    · exact h
  refine ⟨⟨cutF_sub.trans S'.sub, S.f0.trans fc, S'.h0, fun b h1 h2 => S'.nw b (fun q => h1 (cn b q)) h2, S.len, fun i v s e1 e2 => ?_, S.apart, fun p e => ?_, fun b hb => ?_⟩, fc⟩
  · have h := S.env i v s e1 e2
    cases s with
    | no => cases v <;> trivial
    | fr d =>
      cases v with
      | none => exact h.elim
      | some v => exact Rp.mono fc h
    | own ds =>
      cases v with
      | none => exact h.elim
      | some v =>
        obtain ⟨a, xs, rfl, ha, hf, h0, np, r, nh⟩ := h
        refine ⟨a, xs, rfl, hk a _ ha np, ?_, h0, np, RpL.mono fc r, nh⟩
        unfold cutF
        rw [if_pos ⟨i, ds, e2, e1⟩]
  · obtain ⟨h1, r⟩ := S'.pz p e
    exact ⟨cn p h1, r⟩
  · obtain ⟨h1, r⟩ := S'.hd b hb
    exact ⟨cn b h1, r⟩
end
def eRoll (m : E D) : E D := fun ρ Q X z => m ρ (fun d _ z' => d.noL = true ∧ Q d ρ z') X z
def eRollO (m : E (List D)) : E (List D) := fun ρ Q X z => m ρ (fun d _ z' => noLL d = true ∧ Q d ρ z') X z
section
variable {C : CC} {W : WX} {X : Cx} {e : Expr}
theorem xe_roll {m : E D} (h : XE X C W e m) : XE X C W e (eRoll m) := by
  obtain ⟨t, h1, h2⟩ := h.ex
  refine ⟨t, h1, fun σ ρ F H z Qd Xd Q S hm hq hx => h2 σ ρ F H z _ Xd Q S hm (fun d ρ' z' b F' H' q S' ff hk ol r => ?_) hx⟩
  obtain ⟨S2, f2⟩ := S.roll S' ff hk
  exact hq d ρ z' b _ H' q.2 S2 f2 hk Ole.refl (Rp.rl S'.sub (S.ownL hk) q.1 r)
theorem xo_roll {m : E (List D)} (h : XO X C W e m) : XO X C W e (eRollO m) := by
  obtain ⟨t, h1, h2⟩ := h.ex
  refine ⟨t, h1, fun σ ρ F H z Qd Xd Q S hm hq hx => h2 σ ρ F H z _ Xd Q S hm (fun d ρ' z' b F' H' q S' ff hk ol r => ?_) hx⟩
  obtain ⟨S2, f2⟩ := S.roll S' ff hk
  obtain ⟨a, xs, e1, e2, e3, e4, e5, e6⟩ := r
  refine hq d ρ z' b _ H' q.2 S2 f2 hk Ole.refl ⟨a, xs, e1, e2, ?_, e4, e5, RpL.rl S'.sub (S.ownL hk) q.1 e6⟩
  unfold cutF
  split
  · rfl
  · exact e3
theorem xp_roll {m : E D} (h : XE X C W e m) : XP X C W e (eRoll m) := (xe_roll h).p
end
section
variable (m : E D) (mo : E (List D)) (ρ : Rho) (Q : D → Rho → Int → Prop) (Ql : List D → Rho → Int → Prop) (X : Er → Rho → Int → Prop) (z : Int)
@[simp] theorem eRoll_a : eRoll m ρ Q X z = m ρ (fun d _ z' => d.noL = true ∧ Q d ρ z') X z := propext Iff.rfl
@[simp] theorem eRollO_a : eRollO mo ρ Ql X z = mo ρ (fun d _ z' => noLL d = true ∧ Ql d ρ z') X z := propext Iff.rfl
@[simp] theorem noL_1 (i : Int) : (D.int i).noL = true := by unfold D.noL; exact Eq.refl _
@[simp] theorem noL_2 (i : Bool) : (D.bl i).noL = true := by unfold D.noL; exact Eq.refl _
@[simp] theorem noL_3 (i : Str) : (D.str i).noL = true := by unfold D.noL; exact Eq.refl _
@[simp] theorem noL_4 : D.non.noL = true := by unfold D.noL; exact Eq.refl _
@[simp] theorem noL_5 (ds : List D) : (D.tup ds).noL = noLL ds := by rw [D.noL]
@[simp] theorem noLL_1 : noLL [] = true := by unfold noLL; exact Eq.refl _
@[simp] theorem noLL_2 (d : D) (ds : List D) : noLL (d :: ds) = (d.noL && noLL ds) := by rw [noLL]
end
end DL

namespace DL
open PySem PySem.Spec PyProof.Rows L2

/-! ## isinstance(e, (c1, c2, ..)) of the error that the suite holds -/
section
variable {X : Cx} {C : CC} {W : WX} {cv : Value} {n x : Str} {np p pos tpos : Pos}
def tCs : List V → TA
  | [] => tNil
  | y :: ys => tCons (tC y) (tCs ys)
theorem tCs_run : ∀ (ys : List V) (σ : L2.St) (H : Hp) (Q : List V → Hp → Prop), Q ys H → tCs ys σ H Q
  | [], _, _, _, h => h
  | y :: ys, σ, H, Q, h => tCs_run ys σ H _ h
/-- the tables of the classes, one behind another -/
def orT : List (Str → Option Bool) → Str → Option Bool
  | [], _ => some false
  | t :: r, nm => match t nm with
    | some true => some true
    | some false => orT r nm
    | none => none
inductive ClX (X : Cx) (A : Addr) (nm : Str) : List Expr → List (Str → Option Bool) → List V → List Value → Prop
  | nil : ClX X A nm [] [] [] []
  | cons {e : Expr} {t : Str → Option Bool} {y : V} {cv : Value} {es ts ys cvs} : (∀ b, t nm = some b → PySem.W.kitOne X.K (.ref A) cv = some b) → PE X e (tC y) → (∀ u, RelV y u → u = cv) → starEach (e :: es) X.env = (false, eval e X.env) :: starEach es X.env → ClX X A nm es ts ys cvs → ClX X A nm (e :: es) (t :: ts) (y :: ys) (cv :: cvs)
theorem ClX.pa {A : Addr} {nm : Str} : ∀ {es ts ys cvs}, ClX X A nm es ts ys cvs → PA X es (tCs ys)
  | _, _, _, _, .nil => pa_nil
  | _, _, _, _, .cons _ h2 _ h4 r => pa_cons h2 r.pa h4
theorem ClX.vals {A : Addr} {nm : Str} : ∀ {es ts ys cvs} {ws : List Value}, ClX X A nm es ts ys cvs → Vals ys ws → ws = cvs
  | _, _, _, _, _, .nil, .nil => rfl
  | _, _, _, _, _, .cons _ _ h3 _ r, .cons a b => by rw [h3 _ a, r.vals b]
theorem ClX.any {A : Addr} {nm : Str} : ∀ {es ts ys cvs} {b : Bool}, ClX X A nm es ts ys cvs → orT ts nm = some b → PySem.W.kitAny X.K (.ref A) cvs = some b
  | _, _, _, _, b, .nil, h => by cases h; rfl
  | _, _, _, _, b, .cons (t := t) h1 _ _ _ r, h => by
    unfold orT at h
    cases e : t nm with
    | none => rw [e] at h; cases h
    | some b' =>
      rw [e] at h
      have k := h1 b' e
      cases b' with
      | true => cases h; exact kitAny_cons k (fun q => nomatch q) fun _ => rfl
      | false => exact kitAny_cons k (fun _ => r.any h) fun q => nomatch q
theorem ClX.len {A : Addr} {nm : Str} : ∀ {es ts ys cvs}, ClX X A nm es ts ys cvs → ys.length = es.length
  | _, _, _, _, .nil => rfl
  | _, _, _, _, .cons _ _ _ _ r => by simp [r.len]
def rIsXT (K : PySem.W.Frag) (A a dx : Addr) (ys : List V) (P : List Value → Prop) : R2 := fun x y H Q => ∃ tp b, x = .ref a ∧ y = .ref tp ∧ H tp = some (.tup ys) ∧ (∃ fs, H dx = some (.xd fs)) ∧ (∀ ws, Vals ys ws → PySem.W.kitAny K (.ref A) ws = some b) ∧ Q (.bl b) H
theorem call_isXT {a A dx : Addr} {oe : Obj} {pn : List (Addr × Obj)} {ys : List V} {P : List Value → Prop} (T : ExcC X.K A) (hz : Zc (.ref A) (some dx) oe) (hf : ∃ vs, oe.data = .fields vs) : CallR (X.suite a ((a, oe) :: pn)) (.builtin "isinstance") (fun xs H Q => ∃ x y, xs = [x, y] ∧ rIsXT X.K A a dx ys P x y H Q) := by
  intro pins s σ H xs us Q I r h
  obtain ⟨x, y, rfl, tp, b, rfl, rfl, hT, ⟨fs, hd⟩, e, q⟩ := h
  cases r with
  | cons rx rr =>
    cases rr with
    | cons rt rr =>
      cases rr
      cases rx
      cases rt
      obtain ⟨hget, _⟩ := I.pin (a, oe) (List.mem_append.mpr (.inl List.mem_cons_self))
      obtain ⟨vs, hv⟩ := hf
      have hx : ObjOk X.prog X.w H s.heap dx (.xd fs) := I.hok dx _ hd
      obtain ⟨mA, hns, hr⟩ := hx
      obtain ⟨od, ho, hl⟩ := lookIn_ns hns
      have J : PySem.W.InstAt s.heap a oe A (some od) := by
        refine ⟨hget, hz.1, ?_, ?_⟩
        · unfold PySem.W.notCls
          rw [hv] <;> rfl
        · rw [hz.2]
          exact ho
      have hcl : (PySem.W.clsIn X.K A).isSome = true := by
        obtain ⟨cd, hc, _⟩ := PySem.W.any_some T.hd
        rw [hc]
        rfl
      obtain ⟨_, its, rv, o, h1, h2, n, h3⟩ := (show ObjOk X.prog X.w H s.heap tp (.tup ys) from I.hok tp _ hT)
      obtain ⟨oc, od2, dt, sl⟩ := o
      simp only at h2 h3
      subst h2 h3
      exact PySem.W.kia_tup (PySem.W.kitx_exc (od := some od) hcl T.hg T.hk T.hs T.ha T.hn T.ht T.hm) I.kIn J h1 (e _ rv) (fun z => nomatch z) fun tk => ⟨.bl b, H, I.kept (t' := tk) fun _ _ z => z, rfl, q⟩
theorem xe_isXT {a A : Addr} {dx : Addr} {oe : Obj} {pn : List (Addr × Obj)} {nm : Str} {ts : List (Str → Option Bool)} {ys : List V} {cvs : List Value} {es : List Expr} {x1} (hK : X.K = C.K) (T : ExcC X.K A) (hz : Zc (.ref A) (some dx) oe) (hf : ∃ vs, oe.data = .fields vs) (i : Nat)
    (hv : PE (X.suite a ((a, oe) :: pn)) (.Name n np) (tVar i)) (cl : ClX (X.suite a ((a, oe) :: pn)) A nm es ts ys cvs) (hl : es.length ≤ 100)
    (hg : Gl X "isinstance") (hm : X.mg "isinstance" = none) (hp : starEach (.Name n np :: [.Tuple es x1 tpos]) X.env = (false, eval (.Name n np) X.env) :: starEach [.Tuple es x1 tpos] X.env := by rfl) (hpl : (backTo pos (starEach [.Tuple es x1 tpos] X.env)).any (·.1) = false := by rfl) (h1 : S1 X (.Tuple es x1 tpos) := by rfl) :
    XE (X.suite a ((a, oe) :: pn)) C W (.Call (.Name "isinstance" p) [.Name n np, .Tuple es x1 tpos] [] pos) (eIsX i a dx nm (orT ts)) := by
  refine ⟨_, pe_callB (call_isXT (pn := pn) (ys := ys) (P := fun _ => True) T hz hf) hg hm rfl (pa2 hv (pe_tup cl.pa) hp h1) (by decide) (by decide) hp hpl, fun σ ρ F H z Qd Xd Q S hm' hq hx => ?_⟩
  unfold eIsX at hm'
  cases e : ρ[i]? with
  | none => rw [e] at hm'; exact hm'.elim
  | some s =>
    rw [e] at hm'
    obtain ⟨v, e1, r⟩ := st_get S e
    cases s with
    | no => exact hm'.elim
    | own ds => exact hm'.elim
    | fr d =>
      cases v with
      | none => exact r.elim
      | some v =>
        cases d with
        | exn a' x' c' d =>
          obtain ⟨⟨rfl, rfl, rfl⟩, b, hb, hm'⟩ := hm'
          have r' : C.R F v (.exn a' x' c' d) := r
          cases r' with
          | exn g4 g5 =>
            refine ⟨_, e1, tCs_run ys _ _ _ ⟨by rw [cl.len, sizeLine_eq]; omega, fun tp htp => ?_⟩⟩
            have hd := S.sub _ _ g4
            refine ⟨_, _, rfl, tp, b, rfl, rfl, upd_same, ⟨_, by rw [upd_ne (ne_of_none hd htp)]; exact hd⟩, fun ws hw => ?_, ?_⟩
            · rw [cl.vals hw]
              exact cl.any hb
            · exact hq _ ρ z _ F _ hm' (S.newH htp) (Same.refl F) (Keep.new htp) Ole.refl (.bl b)
        | _ => exact hm'.elim
/-! ## sorted(xs), a few whole numbers -/
def fSort : D → E (List D)
  | .lst ds => fun ρ Q _ z => ∃ ns, intsOf ds = some ns ∧ ns.length < 64 ∧ ∀ ns' : List Int, ns'.Perm ns → ns'.Pairwise (· ≤ ·) → Q (ns'.map .int) ρ z
  | _ => eStuck
theorem RpL.ofInts {K : PySem.W.Frag} {mg : Str → Option Value} {pa : Option Addr} {F : Hp} : ∀ ns : List Int, RpL K mg pa F (ns.map V.int) (ns.map D.int)
  | [] => .nil
  | n :: r => .cons (.int n) (RpL.ofInts r)
theorem o_sorted : Op1 C W (fun x H Q => rSorted C.K [x] H Q) fSort (RO C) := by
  intro σ ρ F H z x dx Qd Xd Q S rx hm hq hx
  cases dx with
  | lst ds =>
    obtain ⟨ns, h1, h2, q⟩ := hm
    obtain ⟨a, xs, rfl, ha, r, np⟩ := RT.lst S.sub rx
    have e := RpL.ints r h1
    subst e
    refine ⟨a, ns, rfl, .inl (.inl ha), h2, fun ns' p hp hs hn => ?_⟩
    exact S.newL hn (RpL.ofInts ns') (q ns' hp hs) hq
  | _ => exact hm.elim
theorem xo_sorted {k : Nat} {a : Expr} {ma : E D} (kx : Kx X C W k) (hg : Gl X "sorted") (hm : X.mg "sorted" = none) (ha : XP X C W a ma) (h1 : S1 X a := by rfl) : XO X C W (.Call (.Name "sorted" p) [a] [] pos) (eb ma fSort) := xo_b1 cr_sorted (by rw [kx.hK]; exact o_sorted) ha hg hm rfl (by decide) (by decide) h1
end
@[simp] theorem fSort_1 (ds : List D) (ρ : Rho) (Q : List D → Rho → Int → Prop) (X : Er → Rho → Int → Prop) (z : Int) : fSort (.lst ds) ρ Q X z = ∃ ns, intsOf ds = some ns ∧ ns.length < 64 ∧ ∀ ns' : List Int, ns'.Perm ns → ns'.Pairwise (· ≤ ·) → Q (ns'.map .int) ρ z := propext Iff.rfl
/-! ## repr(x), x a truth, too -/
def bStr (b : Bool) : Str := if b then "True" else "False"
def dReprX : P1
  | .bl b, Q => Q (.str (bStr b))
  | d, Q => dRepr d Q
def rReprX (K : PySem.W.Frag) : List V → Hp → VK → Prop := fun xs H Q => (∃ b, xs = [V.bl b] ∧ Q (.str (bStr b)) H) ∨ rRepr K xs H Q
section
variable {X : Cx} {C : CC} {W : WX} {p pos : Pos}
theorem call_reprX (hg : X.A.guards = some []) (hu : X.A.units + 65 < cLine) : CallR X (.builtin "repr") (rReprX X.K) := by
  intro pins s σ H xs us Q I r h
  rcases h with ⟨b, rfl, q⟩ | h
  · cases r with
    | cons ru rn =>
      cases rn
      obtain rfl : _ = Value.bool b := ru
      exact call_repr_gives (PySem.typeIs_bool s b) F.slot_bool_repr F.entry_bool_repr (F.args_bool_repr_1 _) (gives_bool_repr b) ⟨.str (bStr b), H, I.tok _, ⟨_, rfl⟩, q⟩ rfl (by cases b <;> decide)
  · exact call_reprD hg hu pins s σ H xs us Q I r h
theorem o_reprX : Op1 C W (fun x H Q => rReprX C.K [x] H Q) (fun d => eP (dReprX d)) (kR C) := by
  intro σ ρ F H z x dx Qd Xd Q S rx hm hq hx
  cases dx with
  | bl b => obtain rfl := RT.bl rx; exact .inl ⟨b, rfl, S.same (R := kR C) hm (.str _) hq⟩
  | _ => exact .inr (o_repr σ ρ F H z x _ Qd Xd Q S rx hm hq hx)
theorem xe_reprX {k : Nat} {a : Expr} {ma : E D} (kx : Kx X C W k) (hg : Gl X "repr") (hm : X.mg "repr" = none) (ha : XP X C W a ma) (h1 : S1 X a := by rfl) : XE X C W (.Call (.Name "repr" p) [a] [] pos) (eb ma fun d => eP (dReprX d)) := xe_b1 (call_reprX kx.gu kx.hu) (by rw [kx.hK]; exact o_reprX) ha hg hm rfl (by decide) (by decide) h1
end
@[simp] theorem dReprX_1 (ds : List D) (Q : D → Prop) : dReprX (.lst ds) Q = (reprOk (.lst ds) ∧ Q (.str (D.lst ds).py.shown)) := propext Iff.rfl
@[simp] theorem dReprX_2 (ds : List D) (Q : D → Prop) : dReprX (.tup ds) Q = (reprOk (.tup ds) ∧ Q (.str (D.tup ds).py.shown)) := propext Iff.rfl
@[simp] theorem dReprX_3 (b : Bool) (Q : D → Prop) : dReprX (.bl b) Q = Q (.str (bStr b)) := propext Iff.rfl
section
variable {X : Cx} {C : CC} {W : WX} {e : Expr} {m : E D} {x : Str} {p p1 p2 p3 pos : Pos}
/-- x.append(e) where a suite holds an error -/
theorem xs_appH (i : Nat) (hv : PE X (.Name x p) (tVar i)) (ha : XE X C W e m) (h1 : S1 X e := by rfl)
    (hbase : attributeBase (.Name x p) "append" X.env (eval (.Name x p) X.env) = eval (.Name x p) X.env := by rfl)
    (hfew : ((backTo p2 (starEach (e :: []) X.env)).all (fun x => !x.1) && (backToKw p2 (keywordEach [] X.env)).all (fun x => x.1.isSome)
      && decide ((e :: ([] : List Expr)).length + ([] : List Keyword).length + (if ([] : List Keyword).isEmpty then 0 else 1) < 30)) = true := by rfl)
    (hline : (p1.endLine == p2.line) = true := by rfl) (hs : swapsWith (.Call (.Attribute (.Name x p) "append" p1) [e] [] p2) none p3.line X.env = pure false := by rfl) :
    XS X C W (.Expr (.Call (.Attribute (.Name x p) "append" p1) [e] [] p2) p3) (sApp i m) := by
  obtain ⟨t, t1, t2⟩ := ha.ex
  refine ⟨_, ps_expr (pe_bm PySem.F.plainAttrs_list F.slot_list_append F.type_list_append mt_append hv (pa1 t1 h1) hbase hfew hline h1 rfl) hs, fun σ ρ F H z Qd Xd Dn S hm hq hx => ?_⟩
  unfold sApp at hm
  cases e0 : ρ[i]? with
  | none => rw [e0] at hm; exact hm.elim
  | some s =>
    rw [e0] at hm
    obtain ⟨v, e1, r⟩ := st_get S e0
    cases s with
    | no => exact hm.elim
    | fr d => exact hm.elim
    | own ds0 =>
      cases v with
      | none => exact r.elim
      | some v =>
        obtain ⟨l, xs, rfl, ha0, hf, h0, np, rr, nh⟩ := r
        refine ⟨_, e1, .inl ⟨rfl, xs, .inl (.inl ha0)⟩, ?_⟩
        refine t2 σ ρ F H z _ Xd (fun y H1 => rAppend (.ref l) [y] H1 fun _ H2 => Dn.nx σ H2) S hm (fun d ρ1 z1 v F1 H1 q1 S1 ff1 k1 o1 r1 => ?_) (fun e ρ' z' cls dd F' H' q S' ff r => hx e ρ' z' cls dd σ F' H' q S' ff r)
        cases e2 : ρ1[i]? with
        | none => rw [e2] at q1; exact q1.elim
        | some s =>
          rw [e2] at q1
          cases s with
          | no => exact q1.elim
          | fr d => exact q1.elim
          | own ds =>
            obtain ⟨l', ys, el, hl, _, _, _, r2, _⟩ := S1.env i _ _ e1 e2
            cases el
            refine ⟨l, ys, v, rfl, rfl, hl, by rw [RpL.length r2, sizeLine_eq]; exact q1.1, ?_⟩
            exact hq .nx _ z1 F1 _ q1.2 ff1 σ (S1.mut e2 e1 (RpL.app1 r2 r1))
end
end DL

namespace DL
open PySem PySem.Spec PyProof.Rows L2

/-! ## x.insert(i, y) -/
def insD (ds : List D) (k : Nat) (y : D) : List D := ds.take k ++ [y] ++ ds.drop k
def sIns (i : Nat) (ms : E (List D)) : E Fl := fun ρ Q X z => match ρ[i]? with
  | some (.own _) => ms ρ (fun as ρ' z' => match as, ρ'[i]? with
    | [.int k, y], some (.own ds) => (0 ≤ k ∧ k < 2 ^ 63 ∧ ds.length < 16777216) ∧ Q .nx (ρ'.set i (.own (insD ds k.toNat y))) z'
    | _, _ => False) X z
  | _ => False
section
variable {X : Cx} {C : CC} {W : WX} {a b : Expr} {ms : E (List D)} {x : Str} {p p1 p2 p3 : Pos}
theorem xs_ins (i : Nat) (hv : PE X (.Name x p) (tVar i)) (ha : XA X C W [a, b] ms)
    (hbase : attributeBase (.Name x p) "insert" X.env (eval (.Name x p) X.env) = eval (.Name x p) X.env := by rfl)
    (hfew : ((backTo p2 (starEach (a :: [b]) X.env)).all (fun x => !x.1) && (backToKw p2 (keywordEach [] X.env)).all (fun x => x.1.isSome)
      && decide ((a :: ([b] : List Expr)).length + ([] : List Keyword).length + (if ([] : List Keyword).isEmpty then 0 else 1) < 30)) = true := by rfl)
    (hline : (p1.endLine == p2.line) = true := by rfl) (h1 : starEach (a :: [b]) X.env = (false, eval a X.env) :: starEach [b] X.env := by rfl) (hpl : (backTo p2 (starEach [b] X.env)).any (·.1) = false := by rfl) (hs : swapsWith (.Call (.Attribute (.Name x p) "insert" p1) [a, b] [] p2) none p3.line X.env = pure false := by rfl) :
    XS X C W (.Expr (.Call (.Attribute (.Name x p) "insert" p1) [a, b] [] p2) p3) (sIns i ms) := by
  obtain ⟨t, t1, t2⟩ := ha.ex
  refine ⟨_, ps_expr (pe_bm PySem.F.plainAttrs_list PySem.F.slot_list_insert PySem.F.type_list_insert mt_insert hv t1 hbase hfew hline h1 hpl) hs, fun σ ρ F H z Qd Xd Dn S hm hq hx => ?_⟩
  unfold sIns at hm
  cases e0 : ρ[i]? with
  | none => rw [e0] at hm; exact hm.elim
  | some s =>
    rw [e0] at hm
    obtain ⟨v, e1, r⟩ := st_get S e0
    cases s with
    | no => exact hm.elim
    | fr d => exact hm.elim
    | own ds0 =>
      cases v with
      | none => exact r.elim
      | some v =>
        obtain ⟨l, xs, rfl, ha0, hf, h0, np, rr, nh⟩ := r
        refine ⟨_, e1, .inl ⟨rfl, xs, .inl (.inl ha0)⟩, ?_⟩
        refine t2 σ ρ F H z _ Xd _ S hm (fun as ρ1 z1 vs F1 H1 q1 S1 ff1 k1 o1 r1 => ?_) (fun e ρ' z' cls dd F' H' q S' ff r => hx e ρ' z' cls dd σ F' H' q S' ff r)
        match as, q1, r1 with
        | [.int k, y], q1, r1 =>
          cases e2 : ρ1[i]? with
          | none => rw [e2] at q1; exact q1.elim
          | some s =>
            rw [e2] at q1
            cases s with
            | no => exact q1.elim
            | fr d => exact q1.elim
            | own ds =>
              obtain ⟨l', ys, el, hl, _, _, _, r2, _⟩ := S1.env i _ _ e1 e2
              cases el
              cases r1 with
              | cons ra rb =>
                cases ra
                cases rb with
                | cons ry rn =>
                  cases rn
                  refine ⟨l, ys, k, _, rfl, rfl, hl, by rw [RpL.length r2, sizeLine_eq]; exact q1.1.2.2, q1.1.1, q1.1.2.1, ?_⟩
                  exact hq .nx _ z1 F1 _ q1.2 ff1 σ (S1.mut e2 e1 (RpL.append (RpL.append (RpL.take _ r2) (.cons ry .nil)) (RpL.drop _ r2)))
end
@[simp] theorem sIns_a (i : Nat) (ms : E (List D)) (t : Sl) (ρ : Rho) (Qf : Fl → Rho → Int → Prop) (X : Er → Rho → Int → Prop) (z : Int) : sIns i ms (t :: ρ) Qf X z = (match (t :: ρ)[i]? with
  | some (.own _) => ms (t :: ρ) (fun as ρ' z' => match as, ρ'[i]? with
    | [.int k, y], some (.own ds) => (0 ≤ k ∧ k < 2 ^ 63 ∧ ds.length < 16777216) ∧ Qf .nx (ρ'.set i (.own (insD ds k.toNat y))) z'
    | _, _ => False) X z
  | _ => False) := propext Iff.rfl
/-! ## xs[::-1] -/
def fRevL : D → E (List D)
  | .lst ds => ep ds.reverse
  | _ => eStuck
theorem RpL.revD {K : PySem.W.Frag} {mg : Str → Option Value} {pa : Option Addr} {F : Hp} : ∀ {ds : List D} {vs : List V}, RpL K mg pa F vs ds → RpL K mg pa F vs.reverse ds.reverse
  | [], _, h => by cases h; exact .nil
  | d :: ds, _, h => by
    cases h with
    | cons a b =>
      rw [List.reverse_cons, List.reverse_cons]
      exact RpL.append (RpL.revD b) (.cons a .nil)
section
variable {X : Cx} {C : CC} {W : WX} {e : Expr} {m : E D} {k : Nat} {p1 p2 p3 pos : Pos}
theorem o_revL : Op1 C W (fun x H Q => ∃ a xs, x = V.ref a ∧ SqL C.K H a xs ∧ ∀ p, H p = none → Q (.ref p) (upd H p (.lst xs.reverse))) fRevL (RO C) := by
  intro σ ρ F H z x dx Qd Xd Q S rx hm hq hx
  cases dx with
  | lst ds =>
    obtain ⟨a, xs, rfl, ha, r, np⟩ := RT.lst S.sub rx
    exact ⟨a, xs, rfl, .inl (.inl ha), fun p hn => S.newL hn (RpL.revD r) hm hq⟩
  | _ => exact False.elim hm
theorem xo_revL (hK : X.K = C.K) (he : XP X C W e m) : XO X C W (.Subscript e (.Slice none none (some (.UnaryOp .USub (.Constant (.int 1) k p1) p2)) p3) pos) (eb m fRevL) := by
  obtain ⟨t, a1, a2⟩ := he.ex
  refine ⟨_, pe_revL a1, ?_⟩
  rw [hK]
  exact den_un (r := fun x H Q => ∃ a xs, x = V.ref a ∧ SqL C.K H a xs ∧ ∀ p, H p = none → Q (.ref p) (upd H p (.lst xs.reverse))) back_O a2 o_revL
end
@[simp] theorem fRevL_1 (ds : List D) : fRevL (.lst ds) = ep ds.reverse := funext fun _ => rfl
end DL

namespace LW
open PySem PySem.Spec PyProof.Rows L2 DL
def top (i : Nat) : Stmt := PySem.Challenge.pw_dividersteps_k80_widest_ranges.main.body.getD i (.Pass ⟨0, 0, 0, 0⟩)
def d1_0 : He.DefD := ⟨("DividerError", some "__init__"), "__init__", "DividerError.__init__", defArgs (inClass (top 1) 0), defBody (inClass (top 1) 0), defScope (inClass (top 1) 0), [], []⟩
def d2_0 : He.DefD := ⟨("InvalidFraction", some "__init__"), "__init__", "InvalidFraction.__init__", defArgs (inClass (top 2) 0), defBody (inClass (top 2) 0), defScope (inClass (top 2) 0), [], []⟩
def d3_0 : He.DefD := ⟨("InvalidRange", some "__init__"), "__init__", "InvalidRange.__init__", defArgs (inClass (top 3) 0), defBody (inClass (top 3) 0), defScope (inClass (top 3) 0), [], []⟩
def d5 : He.DefD := ⟨("common_divisor", none), "common_divisor", "common_divisor", defArgs (top 5), defBody (top 5), defScope (top 5), [], []⟩
def d6 : He.DefD := ⟨("is_fraction", none), "is_fraction", "is_fraction", defArgs (top 6), defBody (top 6), defScope (top 6), [], []⟩
def d7 : He.DefD := ⟨("checked_fraction", none), "checked_fraction", "checked_fraction", defArgs (top 7), defBody (top 7), defScope (top 7), [], []⟩
def d8 : He.DefD := ⟨("fraction", none), "fraction", "fraction", defArgs (top 8), defBody (top 8), defScope (top 8), [], []⟩
def d9 : He.DefD := ⟨("fraction_order", none), "fraction_order", "fraction_order", defArgs (top 9), defBody (top 9), defScope (top 9), [], []⟩
def d10 : He.DefD := ⟨("compare", none), "compare", "compare", defArgs (top 10), defBody (top 10), defScope (top 10), [], []⟩
def d11 : He.DefD := ⟨("is_stretch", none), "is_stretch", "is_stretch", defArgs (top 11), defBody (top 11), defScope (top 11), [], []⟩
def d12 : He.DefD := ⟨("is_range", none), "is_range", "is_range", defArgs (top 12), defBody (top 12), defScope (top 12), [], []⟩
def d14 : He.DefD := ⟨("starts_later", none), "starts_later", "starts_later", defArgs (top 14), defBody (top 14), defScope (top 14), [], []⟩
def d15 : He.DefD := ⟨("rows_in_order", none), "rows_in_order", "rows_in_order", defArgs (top 15), defBody (top 15), defScope (top 15), [], []⟩
def d16 : He.DefD := ⟨("ends_order", none), "ends_order", "ends_order", defArgs (top 16), defBody (top 16), defScope (top 16), [], []⟩
def d17 : He.DefD := ⟨("set_reaches", none), "set_reaches", "set_reaches", defArgs (top 17), defBody (top 17), defScope (top 17), [], []⟩
def d18 : He.DefD := ⟨("told_set", none), "told_set", "told_set", defArgs (top 18), defBody (top 18), defScope (top 18), [], []⟩
def d20 : He.DefD := ⟨("check_ranges", none), "check_ranges", "check_ranges", defArgs (top 20), defBody (top 20), defScope (top 20), [], []⟩
def d21 : He.DefD := ⟨("checked_set", none), "checked_set", "checked_set", defArgs (top 21), defBody (top 21), defScope (top 21), [], []⟩
def d23 : He.DefD := ⟨("greatest_width", none), "greatest_width", "greatest_width", defArgs (top 23), defBody (top 23), defScope (top 23), [], []⟩
def d24 : He.DefD := ⟨("widest", none), "widest", "widest", defArgs (top 24), defBody (top 24), defScope (top 24), [], []⟩
def d26 : He.DefD := ⟨("_law_dv_purse", none), "_law_dv_purse", "_law_dv_purse", defArgs (top 26), defBody (top 26), defScope (top 26), [], []⟩
def d27 : He.DefD := ⟨("_law_dv_coin", none), "_law_dv_coin", "_law_dv_coin", defArgs (top 27), defBody (top 27), defScope (top 27), [], []⟩
def d28 : He.DefD := ⟨("_law_dv_shared", none), "_law_dv_shared", "_law_dv_shared", defArgs (top 28), defBody (top 28), defScope (top 28), [], []⟩
def d29 : He.DefD := ⟨("_law_dv_ratio", none), "_law_dv_ratio", "_law_dv_ratio", defArgs (top 29), defBody (top 29), defScope (top 29), [], []⟩
def d30 : He.DefD := ⟨("_law_dv_less", none), "_law_dv_less", "_law_dv_less", defArgs (top 30), defBody (top 30), defScope (top 30), [], []⟩
def d31 : He.DefD := ⟨("_law_dv_touch", none), "_law_dv_touch", "_law_dv_touch", defArgs (top 31), defBody (top 31), defScope (top 31), [], []⟩
def d32 : He.DefD := ⟨("_law_dv_union", none), "_law_dv_union", "_law_dv_union", defArgs (top 32), defBody (top 32), defScope (top 32), [], []⟩
def d33 : He.DefD := ⟨("_law_dv_widest", none), "_law_dv_widest", "_law_dv_widest", defArgs (top 33), defBody (top 33), defScope (top 33), [], []⟩
def d34 : He.DefD := ⟨("_law_dv_opening", none), "_law_dv_opening", "_law_dv_opening", defArgs (top 34), defBody (top 34), defScope (top 34), [], []⟩
def d35 : He.DefD := ⟨("_law_dv_stretch", none), "_law_dv_stretch", "_law_dv_stretch", defArgs (top 35), defBody (top 35), defScope (top 35), [], []⟩
def d36 : He.DefD := ⟨("_law_dv_bad_stretch", none), "_law_dv_bad_stretch", "_law_dv_bad_stretch", defArgs (top 36), defBody (top 36), defScope (top 36), [], []⟩
def d37 : He.DefD := ⟨("_law_dv_width_caught", none), "_law_dv_width_caught", "_law_dv_width_caught", defArgs (top 37), defBody (top 37), defScope (top 37), [], []⟩
def d38 : He.DefD := ⟨("_law_dv_width_right", none), "_law_dv_width_right", "_law_dv_width_right", defArgs (top 38), defBody (top 38), defScope (top 38), [], []⟩
def d39 : He.DefD := ⟨("law", none), "law", "law", defArgs (top 39), defBody (top 39), defScope (top 39), [], []⟩
def fnL : List He.DefD := ([d1_0, d2_0, d3_0, d5, d6, d7, d8, d9, d10, d11, d12, d14, d15, d16, d17, d18, d20, d21, d23, d24] : List He.DefD) ++ ([d26, d27, d28, d29, d30, d31, d32, d33, d34, d35, d36, d37, d38, d39] : List He.DefD)
def faL : List He.Fa := ([.glo "DividerError", .glo "InvalidFraction", .glo "InvalidRange", .glo "common_divisor", .glo "is_fraction", .glo "checked_fraction", .glo "fraction", .glo "fraction_order", .glo "compare", .glo "is_stretch", .glo "is_range", .glo "starts_later", .glo "rows_in_order", .glo "ends_order", .glo "set_reaches", .glo "told_set", .glo "check_ranges", .glo "checked_set", .glo "greatest_width", .glo "widest"] : List He.Fa) ++ ([.glo "_law_dv_purse", .glo "_law_dv_coin", .glo "_law_dv_shared", .glo "_law_dv_ratio", .glo "_law_dv_less", .glo "_law_dv_touch", .glo "_law_dv_union", .glo "_law_dv_widest", .glo "_law_dv_opening", .glo "_law_dv_stretch", .glo "_law_dv_bad_stretch", .glo "_law_dv_width_caught", .glo "_law_dv_width_right", .glo "law", .free "ValueError", .free "abs", .free "int", .free "isinstance", .free "len", .free "list"] : List He.Fa) ++ ([.free "max", .free "min", .free "range", .free "repr"] : List He.Fa)
def exL : List (PySem.W.Frag → Bool) := ([fun K => ecB K (He.ga K "DividerError") (He.fAd K ("DividerError", some "__init__")), fun K => ecB K (He.ga K "InvalidFraction") (He.fAd K ("InvalidFraction", some "__init__")), fun K => ecB K (He.ga K "InvalidRange") (He.fAd K ("InvalidRange", some "__init__")), fun K => decide (PySem.W.exmOne K (.ref (He.ga K "DividerError")) (.ref (He.ga K "DividerError")) = some true), fun K => decide (PySem.W.exmOne K (.ref (He.ga K "InvalidFraction")) (.ref (He.ga K "DividerError")) = some true), fun K => decide (PySem.W.exmOne K (.ref (He.ga K "InvalidRange")) (.ref (He.ga K "DividerError")) = some true), fun K => decide (PySem.W.kitOne K (.ref (He.ga K "DividerError")) (.ref (He.ga K "InvalidFraction")) = some false), fun K => decide (PySem.W.kitOne K (.ref (He.ga K "InvalidFraction")) (.ref (He.ga K "InvalidFraction")) = some true)] : List (PySem.W.Frag → Bool)) ++ ([fun K => decide (PySem.W.kitOne K (.ref (He.ga K "InvalidRange")) (.ref (He.ga K "InvalidFraction")) = some false), fun K => decide (PySem.W.kitOne K (.ref (He.ga K "DividerError")) (.ref (He.ga K "InvalidRange")) = some false), fun K => decide (PySem.W.kitOne K (.ref (He.ga K "InvalidFraction")) (.ref (He.ga K "InvalidRange")) = some false), fun K => decide (PySem.W.kitOne K (.ref (He.ga K "InvalidRange")) (.ref (He.ga K "InvalidRange")) = some true), fun K => decide (PySem.W.kitOne K (.ref (He.ga K "DividerError")) (.type "ValueError") = some true), fun K => decide (PySem.W.kitOne K (.ref (He.ga K "InvalidFraction")) (.type "ValueError") = some true), fun K => decide (PySem.W.kitOne K (.ref (He.ga K "InvalidRange")) (.type "ValueError") = some true)] : List (PySem.W.Frag → Bool))
def exB (K : PySem.W.Frag) : Bool := exL.all fun f => f K
abbrev RowL : PySem.W.OpenRow := PySem.W.OpenLaw.row PySem.Challenge.rw_dividersteps_k80_widest_ranges
abbrev hkL : PySem.W.Hook := hookE 4 faL fnL exB
def obL (s : PySem.W.SharedT) : AlE := obsE 4 faL fnL exB (HandSHeadRun.getT s)
theorem obL_eq (s : PySem.W.SharedT) : obL s = hkL.obs s.abs := obsE_eq (HandSHeadRun.getT_eq s)
def looseL : List PySem.Str := (["DividerError", "InvalidFraction", "InvalidRange", "common_divisor", "is_fraction", "checked_fraction", "fraction", "fraction_order", "compare", "is_stretch", "is_range", "starts_later", "rows_in_order", "ends_order", "set_reaches", "told_set", "check_ranges", "checked_set", "greatest_width", "widest"] : List PySem.Str) ++ (["_law_dv_purse", "_law_dv_coin", "_law_dv_shared", "_law_dv_ratio", "_law_dv_less", "_law_dv_touch", "_law_dv_union", "_law_dv_widest", "_law_dv_opening", "_law_dv_stretch", "_law_dv_bad_stretch", "_law_dv_width_caught", "_law_dv_width_right"] : List PySem.Str)
theorem runL (w : World) : HandSHeadRun.RunEq RowL (PySem.W.view RowL.prog [39]) hkL obL 4000 looseL w := by
  intro os
  kernel_rfl
def Ctx (_P : Program) (_w : World) (K : PySem.W.Frag) (mg : Str → Option Value) (base : Heap) : Prop := K.In base ∧ base.Ns mainGlobals mg ∧ SaysE faL fnL exB K
section
variable {P : Program} {w : World} {K : PySem.W.Frag} {mg : Str → Option Value} {base : Heap}
theorem mg_DividerError (B : Ctx P w K mg base) : mg "DividerError" = some (.ref (He.ga K "DividerError")) := He.glo_ok B.1 B.2.1 (B.2.2.1.fact 0 (f := .glo "DividerError") rfl)
theorem mg_InvalidFraction (B : Ctx P w K mg base) : mg "InvalidFraction" = some (.ref (He.ga K "InvalidFraction")) := He.glo_ok B.1 B.2.1 (B.2.2.1.fact 1 (f := .glo "InvalidFraction") rfl)
theorem mg_InvalidRange (B : Ctx P w K mg base) : mg "InvalidRange" = some (.ref (He.ga K "InvalidRange")) := He.glo_ok B.1 B.2.1 (B.2.2.1.fact 2 (f := .glo "InvalidRange") rfl)
theorem mg_common_divisor (B : Ctx P w K mg base) : mg "common_divisor" = some (.ref (He.ga K "common_divisor")) := He.glo_ok B.1 B.2.1 (B.2.2.1.fact 3 (f := .glo "common_divisor") rfl)
theorem mg_is_fraction (B : Ctx P w K mg base) : mg "is_fraction" = some (.ref (He.ga K "is_fraction")) := He.glo_ok B.1 B.2.1 (B.2.2.1.fact 4 (f := .glo "is_fraction") rfl)
theorem mg_checked_fraction (B : Ctx P w K mg base) : mg "checked_fraction" = some (.ref (He.ga K "checked_fraction")) := He.glo_ok B.1 B.2.1 (B.2.2.1.fact 5 (f := .glo "checked_fraction") rfl)
theorem mg_fraction (B : Ctx P w K mg base) : mg "fraction" = some (.ref (He.ga K "fraction")) := He.glo_ok B.1 B.2.1 (B.2.2.1.fact 6 (f := .glo "fraction") rfl)
theorem mg_fraction_order (B : Ctx P w K mg base) : mg "fraction_order" = some (.ref (He.ga K "fraction_order")) := He.glo_ok B.1 B.2.1 (B.2.2.1.fact 7 (f := .glo "fraction_order") rfl)
theorem mg_compare (B : Ctx P w K mg base) : mg "compare" = some (.ref (He.ga K "compare")) := He.glo_ok B.1 B.2.1 (B.2.2.1.fact 8 (f := .glo "compare") rfl)
theorem mg_is_stretch (B : Ctx P w K mg base) : mg "is_stretch" = some (.ref (He.ga K "is_stretch")) := He.glo_ok B.1 B.2.1 (B.2.2.1.fact 9 (f := .glo "is_stretch") rfl)
theorem mg_is_range (B : Ctx P w K mg base) : mg "is_range" = some (.ref (He.ga K "is_range")) := He.glo_ok B.1 B.2.1 (B.2.2.1.fact 10 (f := .glo "is_range") rfl)
theorem mg_starts_later (B : Ctx P w K mg base) : mg "starts_later" = some (.ref (He.ga K "starts_later")) := He.glo_ok B.1 B.2.1 (B.2.2.1.fact 11 (f := .glo "starts_later") rfl)
theorem mg_rows_in_order (B : Ctx P w K mg base) : mg "rows_in_order" = some (.ref (He.ga K "rows_in_order")) := He.glo_ok B.1 B.2.1 (B.2.2.1.fact 12 (f := .glo "rows_in_order") rfl)
theorem mg_ends_order (B : Ctx P w K mg base) : mg "ends_order" = some (.ref (He.ga K "ends_order")) := He.glo_ok B.1 B.2.1 (B.2.2.1.fact 13 (f := .glo "ends_order") rfl)
theorem mg_set_reaches (B : Ctx P w K mg base) : mg "set_reaches" = some (.ref (He.ga K "set_reaches")) := He.glo_ok B.1 B.2.1 (B.2.2.1.fact 14 (f := .glo "set_reaches") rfl)
theorem mg_told_set (B : Ctx P w K mg base) : mg "told_set" = some (.ref (He.ga K "told_set")) := He.glo_ok B.1 B.2.1 (B.2.2.1.fact 15 (f := .glo "told_set") rfl)
theorem mg_check_ranges (B : Ctx P w K mg base) : mg "check_ranges" = some (.ref (He.ga K "check_ranges")) := He.glo_ok B.1 B.2.1 (B.2.2.1.fact 16 (f := .glo "check_ranges") rfl)
theorem mg_checked_set (B : Ctx P w K mg base) : mg "checked_set" = some (.ref (He.ga K "checked_set")) := He.glo_ok B.1 B.2.1 (B.2.2.1.fact 17 (f := .glo "checked_set") rfl)
theorem mg_greatest_width (B : Ctx P w K mg base) : mg "greatest_width" = some (.ref (He.ga K "greatest_width")) := He.glo_ok B.1 B.2.1 (B.2.2.1.fact 18 (f := .glo "greatest_width") rfl)
theorem mg_widest (B : Ctx P w K mg base) : mg "widest" = some (.ref (He.ga K "widest")) := He.glo_ok B.1 B.2.1 (B.2.2.1.fact 19 (f := .glo "widest") rfl)
theorem mg__law_dv_purse (B : Ctx P w K mg base) : mg "_law_dv_purse" = some (.ref (He.ga K "_law_dv_purse")) := He.glo_ok B.1 B.2.1 (B.2.2.1.fact 20 (f := .glo "_law_dv_purse") rfl)
theorem mg__law_dv_coin (B : Ctx P w K mg base) : mg "_law_dv_coin" = some (.ref (He.ga K "_law_dv_coin")) := He.glo_ok B.1 B.2.1 (B.2.2.1.fact 21 (f := .glo "_law_dv_coin") rfl)
theorem mg__law_dv_shared (B : Ctx P w K mg base) : mg "_law_dv_shared" = some (.ref (He.ga K "_law_dv_shared")) := He.glo_ok B.1 B.2.1 (B.2.2.1.fact 22 (f := .glo "_law_dv_shared") rfl)
theorem mg__law_dv_ratio (B : Ctx P w K mg base) : mg "_law_dv_ratio" = some (.ref (He.ga K "_law_dv_ratio")) := He.glo_ok B.1 B.2.1 (B.2.2.1.fact 23 (f := .glo "_law_dv_ratio") rfl)
theorem mg__law_dv_less (B : Ctx P w K mg base) : mg "_law_dv_less" = some (.ref (He.ga K "_law_dv_less")) := He.glo_ok B.1 B.2.1 (B.2.2.1.fact 24 (f := .glo "_law_dv_less") rfl)
theorem mg__law_dv_touch (B : Ctx P w K mg base) : mg "_law_dv_touch" = some (.ref (He.ga K "_law_dv_touch")) := He.glo_ok B.1 B.2.1 (B.2.2.1.fact 25 (f := .glo "_law_dv_touch") rfl)
theorem mg__law_dv_union (B : Ctx P w K mg base) : mg "_law_dv_union" = some (.ref (He.ga K "_law_dv_union")) := He.glo_ok B.1 B.2.1 (B.2.2.1.fact 26 (f := .glo "_law_dv_union") rfl)
theorem mg__law_dv_widest (B : Ctx P w K mg base) : mg "_law_dv_widest" = some (.ref (He.ga K "_law_dv_widest")) := He.glo_ok B.1 B.2.1 (B.2.2.1.fact 27 (f := .glo "_law_dv_widest") rfl)
theorem mg__law_dv_opening (B : Ctx P w K mg base) : mg "_law_dv_opening" = some (.ref (He.ga K "_law_dv_opening")) := He.glo_ok B.1 B.2.1 (B.2.2.1.fact 28 (f := .glo "_law_dv_opening") rfl)
theorem mg__law_dv_stretch (B : Ctx P w K mg base) : mg "_law_dv_stretch" = some (.ref (He.ga K "_law_dv_stretch")) := He.glo_ok B.1 B.2.1 (B.2.2.1.fact 29 (f := .glo "_law_dv_stretch") rfl)
theorem mg__law_dv_bad_stretch (B : Ctx P w K mg base) : mg "_law_dv_bad_stretch" = some (.ref (He.ga K "_law_dv_bad_stretch")) := He.glo_ok B.1 B.2.1 (B.2.2.1.fact 30 (f := .glo "_law_dv_bad_stretch") rfl)
theorem mg__law_dv_width_caught (B : Ctx P w K mg base) : mg "_law_dv_width_caught" = some (.ref (He.ga K "_law_dv_width_caught")) := He.glo_ok B.1 B.2.1 (B.2.2.1.fact 31 (f := .glo "_law_dv_width_caught") rfl)
theorem mg__law_dv_width_right (B : Ctx P w K mg base) : mg "_law_dv_width_right" = some (.ref (He.ga K "_law_dv_width_right")) := He.glo_ok B.1 B.2.1 (B.2.2.1.fact 32 (f := .glo "_law_dv_width_right") rfl)
theorem mg_law (B : Ctx P w K mg base) : mg "law" = some (.ref (He.ga K "law")) := He.glo_ok B.1 B.2.1 (B.2.2.1.fact 33 (f := .glo "law") rfl)
theorem mbf_ValueError (B : Ctx P w K mg base) : mg "ValueError" = none := He.free_ok B.1 B.2.1 (B.2.2.1.fact 34 (f := .free "ValueError") rfl)
theorem mbf_abs (B : Ctx P w K mg base) : mg "abs" = none := He.free_ok B.1 B.2.1 (B.2.2.1.fact 35 (f := .free "abs") rfl)
theorem mbf_int (B : Ctx P w K mg base) : mg "int" = none := He.free_ok B.1 B.2.1 (B.2.2.1.fact 36 (f := .free "int") rfl)
theorem mbf_isinstance (B : Ctx P w K mg base) : mg "isinstance" = none := He.free_ok B.1 B.2.1 (B.2.2.1.fact 37 (f := .free "isinstance") rfl)
theorem mbf_len (B : Ctx P w K mg base) : mg "len" = none := He.free_ok B.1 B.2.1 (B.2.2.1.fact 38 (f := .free "len") rfl)
theorem mbf_list (B : Ctx P w K mg base) : mg "list" = none := He.free_ok B.1 B.2.1 (B.2.2.1.fact 39 (f := .free "list") rfl)
theorem mbf_max (B : Ctx P w K mg base) : mg "max" = none := He.free_ok B.1 B.2.1 (B.2.2.1.fact 40 (f := .free "max") rfl)
theorem mbf_min (B : Ctx P w K mg base) : mg "min" = none := He.free_ok B.1 B.2.1 (B.2.2.1.fact 41 (f := .free "min") rfl)
theorem mbf_range (B : Ctx P w K mg base) : mg "range" = none := He.free_ok B.1 B.2.1 (B.2.2.1.fact 42 (f := .free "range") rfl)
theorem mbf_repr (B : Ctx P w K mg base) : mg "repr" = none := He.free_ok B.1 B.2.1 (B.2.2.1.fact 43 (f := .free "repr") rfl)
theorem exF (B : Ctx P w K mg base) (i : Nat) {f : PySem.W.Frag → Bool} (h : exL[i]? = some f) : f K = true := List.all_eq_true.mp B.2.2.2 f (List.mem_of_getElem? h)
theorem ec_DividerError (B : Ctx P w K mg base) : EC K (He.ga K "DividerError") (He.fAd K ("DividerError", some "__init__")) := ecB_ok (exF B 0 (f := fun K => ecB K (He.ga K "DividerError") (He.fAd K ("DividerError", some "__init__"))) rfl)
theorem ec_InvalidFraction (B : Ctx P w K mg base) : EC K (He.ga K "InvalidFraction") (He.fAd K ("InvalidFraction", some "__init__")) := ecB_ok (exF B 1 (f := fun K => ecB K (He.ga K "InvalidFraction") (He.fAd K ("InvalidFraction", some "__init__"))) rfl)
theorem ec_InvalidRange (B : Ctx P w K mg base) : EC K (He.ga K "InvalidRange") (He.fAd K ("InvalidRange", some "__init__")) := ecB_ok (exF B 2 (f := fun K => ecB K (He.ga K "InvalidRange") (He.fAd K ("InvalidRange", some "__init__"))) rfl)
theorem sc_DividerError : FnScope nSV nSV (defScope (inClass (top 1) 0)) := ⟨rfl, rfl, rfl, by decide +kernel, rfl, by decide +kernel, by decide +kernel⟩
theorem ini_DividerError (B : Ctx P w K mg base) : ∃ fd, FnOk P w K mg base (L2.CX P w) 1 (He.fAd K ("DividerError", some "__init__")) fd nSV (spIK K) ∧ Binds K fd nSV [] := by
  obtain ⟨fd, F⟩ := B.2.2.1.def_ 0 (d := d1_0) rfl
  refine ⟨fd, F.ok sc_DividerError spIK_len fun cdv A outer s H vs Q E hr h => ?_, F.bindsN fun _ _ _ _ _ _ us hl => match us, hl with | [_, _], _ => rfl⟩
  obtain ⟨a, C', v, rfl, T, no, ea, hq⟩ := h
  refine ⟨_, pss_cons (ps_expr (pe_veinit rfl (mbf_ValueError B) (ec_DividerError B).ve (pa_cons (pv 0) (pa_cons pe_str pa_nil))) rfl) (pss_one (ps_ost (pv 0) (pv 1))), ?_⟩
  exact ⟨.ref a, rfl, a, C', _, rfl, Nat.le_of_ble_eq_true rfl, T, ea, v, rfl, .ref a, rfl, a, C', rfl, T, no, .inl ⟨ea, hq⟩⟩
theorem sc_InvalidFraction : FnScope nSV nSV (defScope (inClass (top 2) 0)) := ⟨rfl, rfl, rfl, by decide +kernel, rfl, by decide +kernel, by decide +kernel⟩
theorem ini_InvalidFraction (B : Ctx P w K mg base) : ∃ fd, FnOk P w K mg base (L2.CX P w) 2 (He.fAd K ("InvalidFraction", some "__init__")) fd nSV (spIK K) ∧ Binds K fd nSV [] := by
  obtain ⟨fd, F⟩ := B.2.2.1.def_ 1 (d := d2_0) rfl
  obtain ⟨fB, FB, bB⟩ := ini_DividerError B
  refine ⟨fd, F.ok sc_InvalidFraction spIK_len fun cdv A outer s H vs Q E hr h => ?_, F.bindsN fun _ _ _ _ _ _ us hl => match us, hl with | [_, _], _ => rfl⟩
  obtain ⟨a, C', v, rfl, T, no, ea, hq⟩ := h
  refine ⟨_, pss_one (ps_expr (pe_cinit (ec_DividerError B) rfl (mg_DividerError B) FB hr bB (E := fun _ _ _ => False) (fun pins σ H s e' s' I c => passes_call (W := fun cls d _ H => E cls d H) (takes_of rfl rfl rfl rfl) (E := fun _ _ _ => False) (fun _ _ _ _ z => z.elim) pins σ H s e' s' I c) (pa_cons (pv 0) (pa_cons (pv 1) pa_nil))) rfl), ?_⟩
  exact ⟨.ref a, rfl, v, rfl, a, C', v, rfl, T, no, ea, hq⟩
theorem sc_InvalidRange : FnScope nSV nSV (defScope (inClass (top 3) 0)) := ⟨rfl, rfl, rfl, by decide +kernel, rfl, by decide +kernel, by decide +kernel⟩
theorem ini_InvalidRange (B : Ctx P w K mg base) : ∃ fd, FnOk P w K mg base (L2.CX P w) 2 (He.fAd K ("InvalidRange", some "__init__")) fd nSV (spIK K) ∧ Binds K fd nSV [] := by
  obtain ⟨fd, F⟩ := B.2.2.1.def_ 2 (d := d3_0) rfl
  obtain ⟨fB, FB, bB⟩ := ini_DividerError B
  refine ⟨fd, F.ok sc_InvalidRange spIK_len fun cdv A outer s H vs Q E hr h => ?_, F.bindsN fun _ _ _ _ _ _ us hl => match us, hl with | [_, _], _ => rfl⟩
  obtain ⟨a, C', v, rfl, T, no, ea, hq⟩ := h
  refine ⟨_, pss_one (ps_expr (pe_cinit (ec_DividerError B) rfl (mg_DividerError B) FB hr bB (E := fun _ _ _ => False) (fun pins σ H s e' s' I c => passes_call (W := fun cls d _ H => E cls d H) (takes_of rfl rfl rfl rfl) (E := fun _ _ _ => False) (fun _ _ _ _ z => z.elim) pins σ H s e' s' I c) (pa_cons (pv 0) (pa_cons (pv 1) pa_nil))) rfl), ?_⟩
  exact ⟨.ref a, rfl, v, rfl, a, C', v, rfl, T, no, ea, hq⟩
theorem ecA (B : Ctx P w K mg base) {nm : Str} {A : Addr} (h : mg nm = some (.ref A)) (hn : nm = "DividerError" ∨ nm = "InvalidFraction" ∨ nm = "InvalidRange") : ∃ f, EC K A f := by
  rcases hn with rfl | rfl | rfl
  · rw [mg_DividerError B] at h; cases h; exact ⟨_, ec_DividerError B⟩
  · rw [mg_InvalidFraction B] at h; cases h; exact ⟨_, ec_InvalidFraction B⟩
  · rw [mg_InvalidRange B] at h; cases h; exact ⟨_, ec_InvalidRange B⟩
def ex_DividerError : Str → Option Bool := fun x => if x = "DividerError" then some true else if x = "InvalidFraction" then some true else if x = "InvalidRange" then some true else none
theorem exk_DividerError (B : Ctx P w K mg base) {nm : Str} {b : Bool} {A : Addr} (h : ex_DividerError nm = some b) (g : mg nm = some (.ref A)) : PySem.W.exmOne K (.ref A) (.ref (He.ga K "DividerError")) = some b := by
  unfold ex_DividerError at h
  split at h
  · rename_i e; subst e; cases h; rw [mg_DividerError B] at g; cases g; exact of_decide_eq_true (exF B 3 (f := fun K => decide (PySem.W.exmOne K (.ref (He.ga K "DividerError")) (.ref (He.ga K "DividerError")) = some true)) rfl)
  split at h
  · rename_i e; subst e; cases h; rw [mg_InvalidFraction B] at g; cases g; exact of_decide_eq_true (exF B 4 (f := fun K => decide (PySem.W.exmOne K (.ref (He.ga K "InvalidFraction")) (.ref (He.ga K "DividerError")) = some true)) rfl)
  split at h
  · rename_i e; subst e; cases h; rw [mg_InvalidRange B] at g; cases g; exact of_decide_eq_true (exF B 5 (f := fun K => decide (PySem.W.exmOne K (.ref (He.ga K "InvalidRange")) (.ref (He.ga K "DividerError")) = some true)) rfl)
  cases h
theorem exn_DividerError {nm : Str} {b : Bool} (h : ex_DividerError nm = some b) : nm = "DividerError" ∨ nm = "InvalidFraction" ∨ nm = "InvalidRange" := by
  unfold ex_DividerError at h
  split at h
  · rename_i e; simp [e]
  split at h
  · rename_i e; simp [e]
  split at h
  · rename_i e; simp [e]
  cases h
def is_InvalidFraction : Str → Option Bool := fun x => if x = "DividerError" then some false else if x = "InvalidFraction" then some true else if x = "InvalidRange" then some false else none
theorem isk_InvalidFraction (B : Ctx P w K mg base) {nm : Str} {b : Bool} {A : Addr} (g : mg nm = some (.ref A)) (h : is_InvalidFraction nm = some b) : PySem.W.kitOne K (.ref A) (.ref (He.ga K "InvalidFraction")) = some b := by
  unfold is_InvalidFraction at h
  split at h
  · rename_i e; subst e; cases h; rw [mg_DividerError B] at g; cases g; exact of_decide_eq_true (exF B 6 (f := fun K => decide (PySem.W.kitOne K (.ref (He.ga K "DividerError")) (.ref (He.ga K "InvalidFraction")) = some false)) rfl)
  split at h
  · rename_i e; subst e; cases h; rw [mg_InvalidFraction B] at g; cases g; exact of_decide_eq_true (exF B 7 (f := fun K => decide (PySem.W.kitOne K (.ref (He.ga K "InvalidFraction")) (.ref (He.ga K "InvalidFraction")) = some true)) rfl)
  split at h
  · rename_i e; subst e; cases h; rw [mg_InvalidRange B] at g; cases g; exact of_decide_eq_true (exF B 8 (f := fun K => decide (PySem.W.kitOne K (.ref (He.ga K "InvalidRange")) (.ref (He.ga K "InvalidFraction")) = some false)) rfl)
  cases h
def is_InvalidRange : Str → Option Bool := fun x => if x = "DividerError" then some false else if x = "InvalidFraction" then some false else if x = "InvalidRange" then some true else none
theorem isk_InvalidRange (B : Ctx P w K mg base) {nm : Str} {b : Bool} {A : Addr} (g : mg nm = some (.ref A)) (h : is_InvalidRange nm = some b) : PySem.W.kitOne K (.ref A) (.ref (He.ga K "InvalidRange")) = some b := by
  unfold is_InvalidRange at h
  split at h
  · rename_i e; subst e; cases h; rw [mg_DividerError B] at g; cases g; exact of_decide_eq_true (exF B 9 (f := fun K => decide (PySem.W.kitOne K (.ref (He.ga K "DividerError")) (.ref (He.ga K "InvalidRange")) = some false)) rfl)
  split at h
  · rename_i e; subst e; cases h; rw [mg_InvalidFraction B] at g; cases g; exact of_decide_eq_true (exF B 10 (f := fun K => decide (PySem.W.kitOne K (.ref (He.ga K "InvalidFraction")) (.ref (He.ga K "InvalidRange")) = some false)) rfl)
  split at h
  · rename_i e; subst e; cases h; rw [mg_InvalidRange B] at g; cases g; exact of_decide_eq_true (exF B 11 (f := fun K => decide (PySem.W.kitOne K (.ref (He.ga K "InvalidRange")) (.ref (He.ga K "InvalidRange")) = some true)) rfl)
  cases h
def is_ValueError : Str → Option Bool := fun x => if x = "DividerError" then some true else if x = "InvalidFraction" then some true else if x = "InvalidRange" then some true else none
theorem isk_ValueError (B : Ctx P w K mg base) {nm : Str} {b : Bool} {A : Addr} (g : mg nm = some (.ref A)) (h : is_ValueError nm = some b) : PySem.W.kitOne K (.ref A) (.type "ValueError") = some b := by
  unfold is_ValueError at h
  split at h
  · rename_i e; subst e; cases h; rw [mg_DividerError B] at g; cases g; exact of_decide_eq_true (exF B 12 (f := fun K => decide (PySem.W.kitOne K (.ref (He.ga K "DividerError")) (.type "ValueError") = some true)) rfl)
  split at h
  · rename_i e; subst e; cases h; rw [mg_InvalidFraction B] at g; cases g; exact of_decide_eq_true (exF B 13 (f := fun K => decide (PySem.W.kitOne K (.ref (He.ga K "InvalidFraction")) (.type "ValueError") = some true)) rfl)
  split at h
  · rename_i e; subst e; cases h; rw [mg_InvalidRange B] at g; cases g; exact of_decide_eq_true (exF B 14 (f := fun K => decide (PySem.W.kitOne K (.ref (He.ga K "InvalidRange")) (.type "ValueError") = some true)) rfl)
  cases h

/-! ### common_divisor -/
abbrev N_common_divisor : List Str := ["one", "other"]
abbrev P_common_divisor : List Str := ["one", "other"]
def p0_common_divisor (ρ : Rho) (Q : Bool → Rho → Int → Prop) (X : Er → Rho → Int → Prop) (z : Int) : Prop := (eT (bO dNe (ePk 1) (ep (.int 0)))) ρ Q X z
def p1_common_divisor (ρ : Rho) (Q : Fl → Rho → Int → Prop) (X : Er → Rho → Int → Prop) (z : Int) : Prop := (sPar 0 1 (aC (eVar 1) (aC (bO dMod (ePk 0) (ePk 1)) aN))) ρ Q X z
def s_common_divisor : E Fl := (sSeq (sPar 0 1 (aC (uO dAbs (ePk 0)) (aC (uO dAbs (ePk 1)) aN)))
    (sSeq (sWhile p0_common_divisor p1_common_divisor)
    (sRet (eVar 0))))
def m_common_divisor : List D → E0 D := dF 2 s_common_divisor
theorem me_common_divisor (a0 a1 : D) (Q : D → Int → Prop) (X : Er → Int → Prop) (z : Int) : m_common_divisor [a0, a1] Q X z = s_common_divisor [Sl.fr a0, Sl.fr a1] (outF Q) (fun e _ z => X e z) z := rfl
theorem sc_common_divisor : FnScope N_common_divisor P_common_divisor (defScope (top 5)) := ⟨rfl, rfl, rfl, by decide +kernel, rfl, by decide +kernel, by decide +kernel⟩
theorem ok_common_divisor (B : Ctx P w K mg base) : ∃ fd, GFn P w K mg base "common_divisor" 1 (He.fAd K ("common_divisor", none)) fd P_common_divisor (spF K mg 2 m_common_divisor) := by
  obtain ⟨fd, F⟩ := B.2.2.1.def_ 3 (d := d5) rfl
  have mb_abs := mbf_abs B
  refine ⟨fd, ⟨fnF_of (k := 0) F sc_common_divisor fun cdv A outer s H E pa F0 kx => ?_, mg_common_divisor B, F.kp, bg_pos (F.bindsN fun _ _ _ _ _ _ us hl => match us, hl with | [_, _], _ => rfl)⟩⟩
  exact (xss_cons (xs_par 0 1 kx.calm kx.nd rfl rfl (by decide) rfl rfl (xa_cons (xe_abs rfl mb_abs (xp_var 0 (pv 0))) (xa_cons (xe_abs rfl mb_abs (xp_var 1 (pv 1))) xa_nil)) rfl) (xss_cons (xs_while kx (xt_cmp (op_ne2 kx.hu) o_ne (xp_var 1 (pv 1)) (XE.p xe_int) rfl) (xss_one (xs_par 0 1 kx.calm kx.nd rfl rfl (by decide) rfl rfl (xa_cons (xe_var 1 (pv 1)) (xa_cons (xe_op op_modN (o_mod) (xp_var 0 (pv 0)) (xp_var 1 (pv 1))) xa_nil)) rfl))) (xss_one (xs_ret (xe_var 0 (pv 0))))))

/-! ### is_fraction -/
abbrev N_is_fraction : List Str := ["told"]
abbrev P_is_fraction : List Str := ["told"]
def s_is_fraction : E Fl := (sRet (eAndV (bO dGe (bO dIx (ePk 0) (ep (.int 1))) (ep (.int 1))) (bO dEq (eCall 2 2 0 m_common_divisor gL (aC (bO dIx (ePk 0) (ep (.int 0))) (aC (bO dIx (ePk 0) (ep (.int 1))) aN)) aN) (ep (.int 1)))))
def m_is_fraction : List D → E0 D := dF 1 s_is_fraction
theorem me_is_fraction (a0 : D) (Q : D → Int → Prop) (X : Er → Int → Prop) (z : Int) : m_is_fraction [a0] Q X z = s_is_fraction [Sl.fr a0] (outF Q) (fun e _ z => X e z) z := rfl
theorem sc_is_fraction : FnScope N_is_fraction P_is_fraction (defScope (top 6)) := ⟨rfl, rfl, rfl, by decide +kernel, rfl, by decide +kernel, by decide +kernel⟩
theorem ok_is_fraction (B : Ctx P w K mg base) : ∃ fd, GFn P w K mg base "is_fraction" 2 (He.fAd K ("is_fraction", none)) fd P_is_fraction (spF K mg 1 m_is_fraction) := by
  obtain ⟨fd, F⟩ := B.2.2.1.def_ 4 (d := d6) rfl
  obtain ⟨fd_common_divisor, g_common_divisor⟩ := ok_common_divisor B
  refine ⟨fd, ⟨fnF_of (k := 1) F sc_is_fraction fun cdv A outer s H E pa F0 kx => ?_, mg_is_fraction B, F.kp, bg_pos (F.bindsN fun _ _ _ _ _ _ us hl => match us, hl with | [_], _ => rfl)⟩⟩
  exact (xss_one (xs_ret (xe_and (xe_cmp op_ge o_ge (XE.p (xe_ix rfl (xp_var 0 (pv 0)) (XE.p xe_int) (fun _ _ => rfl))) (XE.p xe_int) rfl) (xe_one (xe_cmp (op_eq2 kx.hu) o_eq (XE.p (xe_call g_common_divisor.g kx (by omega) g_common_divisor.bg rfl (xa_cons (xe_ix rfl (xp_var 0 (pv 0)) (XE.p xe_int) (fun _ _ => rfl)) (xa_cons (xe_ix rfl (xp_var 0 (pv 0)) (XE.p xe_int) (fun _ _ => rfl)) xa_nil)))) (XE.p xe_int) rfl)))))

/-! ### checked_fraction -/
abbrev N_checked_fraction : List Str := ["told"]
abbrev P_checked_fraction : List Str := ["told"]
def s_checked_fraction : E Fl := (sSeq (sIf (tN (tV (eCall 1 1 0 m_is_fraction gL (aC (eVar 0) aN) aN)))
    (sRaise "InvalidFraction" (eVar 0))
    (ep .nx))
    (sRet (eVar 0)))
def m_checked_fraction : List D → E0 D := dF 1 s_checked_fraction
theorem me_checked_fraction (a0 : D) (Q : D → Int → Prop) (X : Er → Int → Prop) (z : Int) : m_checked_fraction [a0] Q X z = s_checked_fraction [Sl.fr a0] (outF Q) (fun e _ z => X e z) z := rfl
theorem sc_checked_fraction : FnScope N_checked_fraction P_checked_fraction (defScope (top 7)) := ⟨rfl, rfl, rfl, by decide +kernel, rfl, by decide +kernel, by decide +kernel⟩
theorem ok_checked_fraction (B : Ctx P w K mg base) : ∃ fd, GFn P w K mg base "checked_fraction" 4 (He.fAd K ("checked_fraction", none)) fd P_checked_fraction (spF K mg 1 m_checked_fraction) := by
  obtain ⟨fd, F⟩ := B.2.2.1.def_ 5 (d := d7) rfl
  obtain ⟨fd_is_fraction, g_is_fraction⟩ := ok_is_fraction B
  obtain ⟨fI_InvalidFraction, i1_InvalidFraction, i2_InvalidFraction⟩ := ini_InvalidFraction B
  refine ⟨fd, ⟨fnF_of (k := 3) F sc_checked_fraction fun cdv A outer s H E pa F0 kx => ?_, mg_checked_fraction B, F.kp, bg_pos (F.bindsN fun _ _ _ _ _ _ us hl => match us, hl with | [_], _ => rfl)⟩⟩
  exact (xss_cons (xs_if (xt_not (xt_tru rfl (XE.p (xe_call g_is_fraction.g kx (by omega) g_is_fraction.bg rfl (xa_cons (xe_var 0 (pv 0)) xa_nil))))) (xss_one (xs_raise kx (ec_InvalidFraction B) i1_InvalidFraction (by omega) i2_InvalidFraction rfl (mg_InvalidFraction B) (xe_var 0 (pv 0)))) xss_nil) (xss_one (xs_ret (xe_var 0 (pv 0)))))

/-! ### fraction -/
abbrev N_fraction : List Str := ["above", "below", "share"]
abbrev P_fraction : List Str := ["above", "below"]
def s_fraction : E Fl := (sSeq (sIf (eT (bO dEq (ePk 1) (ep (.int 0))))
    (sRaise "InvalidFraction" (eTup (aC (eVar 0) (aC (eVar 1) aN))))
    (ep .nx))
    (sSeq (sAsg (eCall 2 2 0 m_common_divisor gL (aC (eVar 0) (aC (eVar 1) aN)) aN) (gN 2))
    (sSeq (sIf (eT (bO dLt (ePk 1) (ep (.int 0))))
    (sAsg (uO dNeg (ePk 2)) (gN 2))
    (ep .nx))
    (sRet (eTup (aC (bO dDiv (ePk 0) (ePk 2)) (aC (bO dDiv (ePk 1) (ePk 2)) aN)))))))
def m_fraction : List D → E0 D := dF 3 s_fraction
theorem me_fraction (a0 a1 : D) (Q : D → Int → Prop) (X : Er → Int → Prop) (z : Int) : m_fraction [a0, a1] Q X z = s_fraction [Sl.fr a0, Sl.fr a1, Sl.no] (outF Q) (fun e _ z => X e z) z := rfl
theorem sc_fraction : FnScope N_fraction P_fraction (defScope (top 8)) := ⟨rfl, rfl, rfl, by decide +kernel, rfl, by decide +kernel, by decide +kernel⟩
theorem ok_fraction (B : Ctx P w K mg base) : ∃ fd, GFn P w K mg base "fraction" 4 (He.fAd K ("fraction", none)) fd P_fraction (spF K mg 2 m_fraction) := by
  obtain ⟨fd, F⟩ := B.2.2.1.def_ 6 (d := d8) rfl
  obtain ⟨fd_common_divisor, g_common_divisor⟩ := ok_common_divisor B
  obtain ⟨fI_InvalidFraction, i1_InvalidFraction, i2_InvalidFraction⟩ := ini_InvalidFraction B
  refine ⟨fd, ⟨fnF_of (k := 3) F sc_fraction fun cdv A outer s H E pa F0 kx => ?_, mg_fraction B, F.kp, bg_pos (F.bindsN fun _ _ _ _ _ _ us hl => match us, hl with | [_, _], _ => rfl)⟩⟩
  exact (xss_cons (xs_if (xt_cmp (op_eq2 kx.hu) o_eq (xp_var 1 (pv 1)) (XE.p xe_int) rfl) (xss_one (xs_raise kx (ec_InvalidFraction B) i1_InvalidFraction (by omega) i2_InvalidFraction rfl (mg_InvalidFraction B) (xe_tup (xa_cons (xe_var 0 (pv 0)) (xa_cons (xe_var 1 (pv 1)) xa_nil))))) xss_nil) (xss_cons (xs_set 2 (xe_call g_common_divisor.g kx (by omega) g_common_divisor.bg rfl (xa_cons (xe_var 0 (pv 0)) (xa_cons (xe_var 1 (pv 1)) xa_nil))) kx.nd rfl (by first | exact .inl rfl | exact .inr rfl)) (xss_cons (xs_if (xt_cmp op_lt2 o_lt (xp_var 1 (pv 1)) (XE.p xe_int) rfl) (xss_one (xs_set 2 (xe_neg (xp_var 2 (pv 2))) kx.nd rfl (by first | exact .inl rfl | exact .inr rfl))) xss_nil) (xss_one (xs_ret (xe_tup (xa_cons (xe_op op_divG (o_div) (xp_var 0 (pv 0)) (xp_var 2 (pv 2))) (xa_cons (xe_op op_divG (o_div) (xp_var 1 (pv 1)) (xp_var 2 (pv 2))) xa_nil))))))))

/-! ### fraction_order -/
abbrev N_fraction_order : List Str := ["one", "other", "left", "right"]
abbrev P_fraction_order : List Str := ["one", "other"]
def s_fraction_order : E Fl := (sSeq (sPar 2 3 (aC (bO dMul (bO dIx (ePk 0) (ep (.int 0))) (bO dIx (ePk 1) (ep (.int 1)))) (aC (bO dMul (bO dIx (ePk 1) (ep (.int 0))) (bO dIx (ePk 0) (ep (.int 1)))) aN)))
    (sSeq (sIf (eT (bO dEq (ePk 2) (ePk 3)))
    (sRet (ep (.int 0)))
    (ep .nx))
    (sRet (eIf (eT (bO dLt (ePk 2) (ePk 3))) (uO dNeg (ep (.int 1))) (ep (.int 1))))))
def m_fraction_order : List D → E0 D := dF 4 s_fraction_order
theorem me_fraction_order (a0 a1 : D) (Q : D → Int → Prop) (X : Er → Int → Prop) (z : Int) : m_fraction_order [a0, a1] Q X z = s_fraction_order [Sl.fr a0, Sl.fr a1, Sl.no, Sl.no] (outF Q) (fun e _ z => X e z) z := rfl
theorem sc_fraction_order : FnScope N_fraction_order P_fraction_order (defScope (top 9)) := ⟨rfl, rfl, rfl, by decide +kernel, rfl, by decide +kernel, by decide +kernel⟩
theorem ok_fraction_order (B : Ctx P w K mg base) : ∃ fd, GFn P w K mg base "fraction_order" 1 (He.fAd K ("fraction_order", none)) fd P_fraction_order (spF K mg 2 m_fraction_order) := by
  obtain ⟨fd, F⟩ := B.2.2.1.def_ 7 (d := d9) rfl
  refine ⟨fd, ⟨fnF_of (k := 0) F sc_fraction_order fun cdv A outer s H E pa F0 kx => ?_, mg_fraction_order B, F.kp, bg_pos (F.bindsN fun _ _ _ _ _ _ us hl => match us, hl with | [_, _], _ => rfl)⟩⟩
  exact (xss_cons (xs_par 2 3 kx.calm kx.nd rfl rfl (by decide) rfl rfl (xa_cons (xe_op op_mulG (o_mul) (XE.p (xe_ix rfl (xp_var 0 (pv 0)) (XE.p xe_int) (fun _ _ => rfl))) (XE.p (xe_ix rfl (xp_var 1 (pv 1)) (XE.p xe_int) (fun _ _ => rfl)))) (xa_cons (xe_op op_mulG (o_mul) (XE.p (xe_ix rfl (xp_var 1 (pv 1)) (XE.p xe_int) (fun _ _ => rfl))) (XE.p (xe_ix rfl (xp_var 0 (pv 0)) (XE.p xe_int) (fun _ _ => rfl)))) xa_nil)) rfl) (xss_cons (xs_if (xt_cmp (op_eq2 kx.hu) o_eq (xp_var 2 (pv 2)) (xp_var 3 (pv 3)) rfl) (xss_one (xs_ret xe_int)) xss_nil) (xss_one (xs_ret (xe_if (xt_cmp op_lt2 o_lt (xp_var 2 (pv 2)) (xp_var 3 (pv 3)) rfl) (xe_neg (XE.p xe_int)) xe_int)))))

/-! ### compare -/
abbrev N_compare : List Str := ["one", "other"]
abbrev P_compare : List Str := ["one", "other"]
def s_compare : E Fl := (sSeq (sExpr (eCall 1 1 0 m_checked_fraction gL (aC (eVar 0) aN) aN))
    (sSeq (sExpr (eCall 1 1 0 m_checked_fraction gL (aC (eVar 1) aN) aN))
    (sRet (eCall 2 2 0 m_fraction_order gL (aC (eVar 0) (aC (eVar 1) aN)) aN))))
def m_compare : List D → E0 D := dF 2 s_compare
theorem me_compare (a0 a1 : D) (Q : D → Int → Prop) (X : Er → Int → Prop) (z : Int) : m_compare [a0, a1] Q X z = s_compare [Sl.fr a0, Sl.fr a1] (outF Q) (fun e _ z => X e z) z := rfl
theorem sc_compare : FnScope N_compare P_compare (defScope (top 10)) := ⟨rfl, rfl, rfl, by decide +kernel, rfl, by decide +kernel, by decide +kernel⟩
theorem ok_compare (B : Ctx P w K mg base) : ∃ fd, GFn P w K mg base "compare" 5 (He.fAd K ("compare", none)) fd P_compare (spF K mg 2 m_compare) := by
  obtain ⟨fd, F⟩ := B.2.2.1.def_ 8 (d := d10) rfl
  obtain ⟨fd_fraction_order, g_fraction_order⟩ := ok_fraction_order B
  obtain ⟨fd_checked_fraction, g_checked_fraction⟩ := ok_checked_fraction B
  refine ⟨fd, ⟨fnF_of (k := 4) F sc_compare fun cdv A outer s H E pa F0 kx => ?_, mg_compare B, F.kp, bg_pos (F.bindsN fun _ _ _ _ _ _ us hl => match us, hl with | [_, _], _ => rfl)⟩⟩
  exact (xss_cons (xs_expr (XE.p (xe_call g_checked_fraction.g kx (by omega) g_checked_fraction.bg rfl (xa_cons (xe_var 0 (pv 0)) xa_nil)))) (xss_cons (xs_expr (XE.p (xe_call g_checked_fraction.g kx (by omega) g_checked_fraction.bg rfl (xa_cons (xe_var 1 (pv 1)) xa_nil)))) (xss_one (xs_ret (xe_call g_fraction_order.g kx (by omega) g_fraction_order.bg rfl (xa_cons (xe_var 0 (pv 0)) (xa_cons (xe_var 1 (pv 1)) xa_nil)))))))

/-! ### is_stretch -/
abbrev N_is_stretch : List Str := ["stretch", "order", "low", "low_in", "high", "high_in"]
abbrev P_is_stretch : List Str := ["stretch"]
def s_is_stretch : E Fl := (sSeq (sAsg (eVar 0) (gTp 4 (gCn (gN 2) (gCn (gN 3) (gCn (gN 4) (gCn (gN 5) gNl))))))
    (sSeq (sIf (eOr (tN (tV (eCall 1 1 0 m_is_fraction gL (aC (eVar 2) aN) aN))) (eOr (tN (tV (eCall 1 1 0 m_is_fraction gL (aC (eVar 4) aN) aN))) (eT (bO dLt (bO dIx (ePk 2) (ep (.int 0))) (ep (.int 0))))))
    (sRet (ep (.bl false)))
    (ep .nx))
    (sSeq (sIf (eAnd (eT (bO dEq (bO dIx (ePk 2) (ep (.int 0))) (ep (.int 0)))) (tV (ePk 3)))
    (sRet (ep (.bl false)))
    (ep .nx))
    (sSeq (sAsg (eCall 2 2 0 m_fraction_order gL (aC (eVar 2) (aC (eVar 4) aN)) aN) (gN 1))
    (sRet (eOrV (bO dLt (ePk 1) (ep (.int 0))) (eAndV (bO dEq (ePk 1) (ep (.int 0))) (eAndV (eVar 3) (eVar 5)))))))))
def m_is_stretch : List D → E0 D := dF 6 s_is_stretch
theorem me_is_stretch (a0 : D) (Q : D → Int → Prop) (X : Er → Int → Prop) (z : Int) : m_is_stretch [a0] Q X z = s_is_stretch [Sl.fr a0, Sl.no, Sl.no, Sl.no, Sl.no, Sl.no] (outF Q) (fun e _ z => X e z) z := rfl
theorem sc_is_stretch : FnScope N_is_stretch P_is_stretch (defScope (top 11)) := ⟨rfl, rfl, rfl, by decide +kernel, rfl, by decide +kernel, by decide +kernel⟩
theorem ok_is_stretch (B : Ctx P w K mg base) : ∃ fd, GFn P w K mg base "is_stretch" 3 (He.fAd K ("is_stretch", none)) fd P_is_stretch (spF K mg 1 m_is_stretch) := by
  obtain ⟨fd, F⟩ := B.2.2.1.def_ 9 (d := d11) rfl
  obtain ⟨fd_fraction_order, g_fraction_order⟩ := ok_fraction_order B
  obtain ⟨fd_is_fraction, g_is_fraction⟩ := ok_is_fraction B
  refine ⟨fd, ⟨fnF_of (k := 2) F sc_is_stretch fun cdv A outer s H E pa F0 kx => ?_, mg_is_stretch B, F.kp, bg_pos (F.bindsN fun _ _ _ _ _ _ us hl => match us, hl with | [_], _ => rfl)⟩⟩
  exact (xss_cons (xs_asg (xe_var 0 (pv 0)) (xg_tup rfl kx.calm (xgs_cons (xg_name 2 (pg_name kx.nd rfl (by first | exact .inl rfl | exact .inr rfl))) (xgs_cons (xg_name 3 (pg_name kx.nd rfl (by first | exact .inl rfl | exact .inr rfl))) (xgs_cons (xg_name 4 (pg_name kx.nd rfl (by first | exact .inl rfl | exact .inr rfl))) (xgs_cons (xg_name 5 (pg_name kx.nd rfl (by first | exact .inl rfl | exact .inr rfl))) xgs_nil)))))) (xss_cons (xs_if (XW.t (xw_or (xt_not (xt_tru rfl (XE.p (xe_call g_is_fraction.g kx (by omega) g_is_fraction.bg rfl (xa_cons (xe_var 2 (pv 2)) xa_nil))))) (xw_or (xt_not (xt_tru rfl (XE.p (xe_call g_is_fraction.g kx (by omega) g_is_fraction.bg rfl (xa_cons (xe_var 4 (pv 4)) xa_nil))))) (xw_or1 (xt_cmp op_lt2 o_lt (XE.p (xe_ix rfl (xp_var 2 (pv 2)) (XE.p xe_int) (fun _ _ => rfl))) (XE.p xe_int) rfl))))) (xss_one (xs_ret xe_bl)) xss_nil) (xss_cons (xs_if (XW.t (xw_and (xt_cmp (op_eq2 kx.hu) o_eq (XE.p (xe_ix rfl (xp_var 2 (pv 2)) (XE.p xe_int) (fun _ _ => rfl))) (XE.p xe_int) rfl) (xw_and1 (xt_tru rfl (xp_var 3 (pv 3)))))) (xss_one (xs_ret xe_bl)) xss_nil) (xss_cons (xs_set 1 (xe_call g_fraction_order.g kx (by omega) g_fraction_order.bg rfl (xa_cons (xe_var 2 (pv 2)) (xa_cons (xe_var 4 (pv 4)) xa_nil))) kx.nd rfl (by first | exact .inl rfl | exact .inr rfl)) (xss_one (xs_ret (xe_or (xe_cmp op_lt2 o_lt (xp_var 1 (pv 1)) (XE.p xe_int) rfl) (xe_one (xe_and (xe_cmp (op_eq2 kx.hu) o_eq (xp_var 1 (pv 1)) (XE.p xe_int) rfl) (xe_and (xe_var 3 (pv 3)) (xe_one (xe_var 5 (pv 5)))))))))))))

/-! ### is_range -/
abbrev N_is_range : List Str := ["stretch"]
abbrev P_is_range : List Str := ["stretch"]
def s_is_range : E Fl := (sRet (eAndV (eCall 1 1 0 m_is_stretch gL (aC (eVar 0) aN) aN) (bO dLe (bO dIx (bO dIx (ePk 0) (ep (.int 2))) (ep (.int 0))) (bO dIx (bO dIx (ePk 0) (ep (.int 2))) (ep (.int 1))))))
def m_is_range : List D → E0 D := dF 1 s_is_range
theorem me_is_range (a0 : D) (Q : D → Int → Prop) (X : Er → Int → Prop) (z : Int) : m_is_range [a0] Q X z = s_is_range [Sl.fr a0] (outF Q) (fun e _ z => X e z) z := rfl
theorem sc_is_range : FnScope N_is_range P_is_range (defScope (top 12)) := ⟨rfl, rfl, rfl, by decide +kernel, rfl, by decide +kernel, by decide +kernel⟩
theorem ok_is_range (B : Ctx P w K mg base) : ∃ fd, GFn P w K mg base "is_range" 4 (He.fAd K ("is_range", none)) fd P_is_range (spF K mg 1 m_is_range) := by
  obtain ⟨fd, F⟩ := B.2.2.1.def_ 10 (d := d12) rfl
  obtain ⟨fd_is_stretch, g_is_stretch⟩ := ok_is_stretch B
  refine ⟨fd, ⟨fnF_of (k := 3) F sc_is_range fun cdv A outer s H E pa F0 kx => ?_, mg_is_range B, F.kp, bg_pos (F.bindsN fun _ _ _ _ _ _ us hl => match us, hl with | [_], _ => rfl)⟩⟩
  exact (xss_one (xs_ret (xe_and (xe_call g_is_stretch.g kx (by omega) g_is_stretch.bg rfl (xa_cons (xe_var 0 (pv 0)) xa_nil)) (xe_one (xe_cmp op_le o_le (XE.p (xe_ix rfl (XE.p (xe_ix rfl (xp_var 0 (pv 0)) (XE.p xe_int) (fun _ _ => rfl))) (XE.p xe_int) (fun _ _ => rfl))) (XE.p (xe_ix rfl (XE.p (xe_ix rfl (xp_var 0 (pv 0)) (XE.p xe_int) (fun _ _ => rfl))) (XE.p xe_int) (fun _ _ => rfl))) rfl)))))

/-! ### starts_later -/
abbrev N_starts_later : List Str := ["one", "other", "order"]
abbrev P_starts_later : List Str := ["one", "other"]
def s_starts_later : E Fl := (sSeq (sAsg (eCall 2 2 0 m_fraction_order gL (aC (bO dIx (ePk 0) (ep (.int 0))) (aC (bO dIx (ePk 1) (ep (.int 0))) aN)) aN) (gN 2))
    (sRet (eOrV (bO dGt (ePk 2) (ep (.int 0))) (eAndV (bO dEq (ePk 2) (ep (.int 0))) (eAndV (bO dIx (ePk 1) (ep (.int 1))) (uO dNot (bO dIx (ePk 0) (ep (.int 1)))))))))
def m_starts_later : List D → E0 D := dF 3 s_starts_later
theorem me_starts_later (a0 a1 : D) (Q : D → Int → Prop) (X : Er → Int → Prop) (z : Int) : m_starts_later [a0, a1] Q X z = s_starts_later [Sl.fr a0, Sl.fr a1, Sl.no] (outF Q) (fun e _ z => X e z) z := rfl
theorem sc_starts_later : FnScope N_starts_later P_starts_later (defScope (top 14)) := ⟨rfl, rfl, rfl, by decide +kernel, rfl, by decide +kernel, by decide +kernel⟩
theorem ok_starts_later (B : Ctx P w K mg base) : ∃ fd, GFn P w K mg base "starts_later" 2 (He.fAd K ("starts_later", none)) fd P_starts_later (spF K mg 2 m_starts_later) := by
  obtain ⟨fd, F⟩ := B.2.2.1.def_ 11 (d := d14) rfl
  obtain ⟨fd_fraction_order, g_fraction_order⟩ := ok_fraction_order B
  refine ⟨fd, ⟨fnF_of (k := 1) F sc_starts_later fun cdv A outer s H E pa F0 kx => ?_, mg_starts_later B, F.kp, bg_pos (F.bindsN fun _ _ _ _ _ _ us hl => match us, hl with | [_, _], _ => rfl)⟩⟩
  exact (xss_cons (xs_set 2 (xe_call g_fraction_order.g kx (by omega) g_fraction_order.bg rfl (xa_cons (xe_ix rfl (xp_var 0 (pv 0)) (XE.p xe_int) (fun _ _ => rfl)) (xa_cons (xe_ix rfl (xp_var 1 (pv 1)) (XE.p xe_int) (fun _ _ => rfl)) xa_nil))) kx.nd rfl (by first | exact .inl rfl | exact .inr rfl)) (xss_one (xs_ret (xe_or (xe_cmp op_gt o_gt (xp_var 2 (pv 2)) (XE.p xe_int) rfl) (xe_one (xe_and (xe_cmp (op_eq2 kx.hu) o_eq (xp_var 2 (pv 2)) (XE.p xe_int) rfl) (xe_and (xe_ix rfl (xp_var 1 (pv 1)) (XE.p xe_int) (fun _ _ => rfl)) (xe_one (xe_not (XE.p (xe_ix rfl (xp_var 0 (pv 0)) (XE.p xe_int) (fun _ _ => rfl))))))))))))

/-! ### rows_in_order -/
abbrev N_rows_in_order : List Str := ["rows", "middle", "row", "left", "right", "found", "taken"]
abbrev P_rows_in_order : List Str := ["rows"]
def p0_rows_in_order (mrec : List D → E0 (List D)) (ρ : Rho) (Q : Bool → Rho → Int → Prop) (X : Er → Rho → Int → Prop) (z : Int) : Prop := (eAnd (eT (bO dLt (ePk 6) (uO dLen (ePk 4)))) (tV (eCall 2 2 0 m_starts_later gL (aC (bO dIx (ePk 2) (ep (.int 0))) (aC (bO dIx (bO dIx (ePk 4) (ePk 6)) (ep (.int 0))) aN)) aN))) ρ Q X z
def p1_rows_in_order (mrec : List D → E0 (List D)) (ρ : Rho) (Q : Fl → Rho → Int → Prop) (X : Er → Rho → Int → Prop) (z : Int) : Prop := (sSeq (sApp 5 (bO dIx (ePk 4) (ePk 6)))
    (sAug (fun i j => i + j) 6 (ep (.int 1)))) ρ Q X z
def p2_rows_in_order (mrec : List D → E0 (List D)) (ρ : Rho) (Q : Fl → Rho → Int → Prop) (X : Er → Rho → Int → Prop) (z : Int) : Prop := (sSeq (sWhile (p0_rows_in_order mrec) (p1_rows_in_order mrec))
    (sApp 5 (eVar 2))) ρ Q X z
def s_rows_in_order (mrec : List D → E0 (List D)) : E Fl := (sSeq (sIf (eT (bO dLt (uO dLen (ePk 0)) (ep (.int 2))))
    (sRetO (eb (ePk 0) fList))
    (ep .nx))
    (sSeq (sAsg (bO dDiv (uO dLen (ePk 0)) (ep (.int 2))) (gN 1))
    (sSeq (sPar 3 4 (aC (oP (eCall 1 1 0 mrec gL (aC (oP (eb (ePk 0) fun d => eb (ep none) fun lo => eb (eb (ePk 1) fPart) fun hi => fSlO d lo hi)) aN) aN)) (aC (oP (eCall 1 1 0 mrec gL (aC (oP (eb (ePk 0) fun d => eb (eb (ePk 1) fPart) fun lo => eb (ep none) fun hi => fSlO d lo hi)) aN) aN)) aN)))
    (sSeq (sParOF 5 6 (eLst aN) (ep (.int 0)))
    (sSeq (sFor (eb (eVar 3) fSeqI) (gN 2) (p2_rows_in_order mrec))
    (sRetO (bC (ePk 5) (oP (eb (ePk 4) fun d => eb (eb (ePk 6) fPart) fun lo => eb (ep none) fun hi => fSlO d lo hi)))))))))
def mf_rows_in_order : Nat → List D → E0 (List D)
  | 0 => fun _ _ _ _ => False
  | n + 1 => dO 7 (s_rows_in_order (mf_rows_in_order n))
def m_rows_in_order : List D → E0 (List D) := fun ds Q X z => ∃ i, i ≤ 40 ∧ mf_rows_in_order i ds Q X z
theorem me_rows_in_order (k : Nat) (a0 : D) (Q : List D → Int → Prop) (X : Er → Int → Prop) (z : Int) : mf_rows_in_order (k + 1) [a0] Q X z = s_rows_in_order (mf_rows_in_order k) [Sl.fr a0, Sl.no, Sl.no, Sl.no, Sl.no, Sl.no, Sl.no] (outO Q) (fun e _ z => X e z) z := rfl
theorem sc_rows_in_order : FnScope N_rows_in_order P_rows_in_order (defScope (top 15)) := ⟨rfl, rfl, rfl, by decide +kernel, rfl, by decide +kernel, by decide +kernel⟩
theorem ok_rows_in_order (B : Ctx P w K mg base) : ∃ fd, GFn P w K mg base "rows_in_order" 43 (He.fAd K ("rows_in_order", none)) fd P_rows_in_order (spO K mg 1 m_rows_in_order) := by
  obtain ⟨fd, F⟩ := B.2.2.1.def_ 12 (d := d15) rfl
  obtain ⟨fd_starts_later, g_starts_later⟩ := ok_starts_later B
  have mb_len := mbf_len B
  have mb_list := mbf_list B
  have bg : BG K fd P_rows_in_order [] 1 gL gL := bg_pos (F.bindsN fun _ _ _ _ _ _ us hl => match us, hl with | [_], _ => rfl)
  have all : ∀ i, FnG P w K mg base (3 + i) (He.fAd K ("rows_in_order", none)) fd P_rows_in_order (spO K mg 1 (mf_rows_in_order i)) := by
    intro i
    induction i with
    | zero => exact fn_noneO rfl
    | succ i ih =>
      have g_rows_in_order : GFn P w K mg base "rows_in_order" (3 + i) (He.fAd K ("rows_in_order", none)) fd P_rows_in_order (spO K mg 1 (mf_rows_in_order i)) := ⟨ih, mg_rows_in_order B, F.kp, bg⟩
      refine fnO_of (k := 3 + i) F sc_rows_in_order fun cdv A outer s H E pa F0 kx => ?_
      exact (xss_cons (xs_if (xt_cmp op_lt2 o_lt (XE.p (xe_len rfl rfl mb_len (xp_var 0 (pv 0)))) (XE.p xe_int) rfl) (xss_one (xs_retO (xo_list kx rfl mb_list (xp_var 0 (pv 0))))) xss_nil) (xss_cons (xs_set 1 (xe_op op_divG (o_div) (XE.p (xe_len rfl rfl mb_len (xp_var 0 (pv 0)))) (XE.p xe_int)) kx.nd rfl (by first | exact .inl rfl | exact .inr rfl)) (xss_cons (xs_par 3 4 kx.calm kx.nd rfl rfl (by decide) rfl rfl (xa_cons (XO.fz (xo_call g_rows_in_order.g kx (by omega) g_rows_in_order.bg rfl (xa_cons (XO.fz (xo_slice rfl (xp_var 0 (pv 0)) xpt_none (xpt_some (xp_var 1 (pv 1))))) xa_nil))) (xa_cons (XO.fz (xo_call g_rows_in_order.g kx (by omega) g_rows_in_order.bg rfl (xa_cons (XO.fz (xo_slice rfl (xp_var 0 (pv 0)) (xpt_some (xp_var 1 (pv 1))) xpt_none)) xa_nil))) xa_nil)) rfl) (xss_cons (xs_parOF 5 6 kx rfl rfl (by decide) rfl rfl (xo_lst xa_nil) (fun q => have kx := kx_hide (q := q) kx; xe_int) rfl) (xss_cons (xs_for kx (xi_seq rfl (xe_var 3 (pv 3))) (xg_name 2 (pg_name kx.nd rfl (by first | exact .inl rfl | exact .inr rfl))) (xss_cons (xs_while kx (XW.t (xw_and (xt_cmp op_lt2 o_lt (xp_var 6 (pv 6)) (XE.p (xe_len rfl rfl mb_len (xp_var 4 (pv 4)))) rfl) (xw_and1 (xt_tru rfl (XE.p (xe_call g_starts_later.g kx (by omega) g_starts_later.bg rfl (xa_cons (xe_ix rfl (xp_var 2 (pv 2)) (XE.p xe_int) (fun _ _ => rfl)) (xa_cons (xe_ix rfl (XE.p (xe_ix rfl (xp_var 4 (pv 4)) (xp_var 6 (pv 6)) (fun _ _ => rfl))) (XE.p xe_int) (fun _ _ => rfl)) xa_nil)))))))) (xss_cons (xs_app 5 kx (pv 5) (xe_ix rfl (xp_var 4 (pv 4)) (xp_var 6 (pv 6)) (fun _ _ => rfl))) (xss_one (xs_aug 6 ip_add kx.nd rfl (by first | exact .inl rfl | exact .inr rfl) (XE.p xe_int))))) (xss_one (xs_app 5 kx (pv 5) (xe_var 2 (pv 2)))))) (xss_one (xs_retO (xo_op op_add4 o_cat (xp_var 5 (pv 5)) (XO.p (xo_slice rfl (xp_var 4 (pv 4)) (xpt_some (xp_var 6 (pv 6))) xpt_none))))))))))
  exact ⟨fd, ⟨fn_someO rfl fun i hi => (all i).mono (by omega), mg_rows_in_order B, F.kp, bg⟩⟩

/-! ### ends_order -/
abbrev N_ends_order : List Str := ["one", "other", "order"]
abbrev P_ends_order : List Str := ["one", "other"]
def s_ends_order : E Fl := (sSeq (sAsg (eCall 2 2 0 m_fraction_order gL (aC (bO dIx (ePk 0) (ep (.int 2))) (aC (bO dIx (ePk 1) (ep (.int 2))) aN)) aN) (gN 2))
    (sRet (eIf (eT (bO dNe (ePk 2) (ep (.int 0)))) (eVar 2) (bO dSub (uO dInt (bO dIx (ePk 0) (ep (.int 3)))) (uO dInt (bO dIx (ePk 1) (ep (.int 3))))))))
def m_ends_order : List D → E0 D := dF 3 s_ends_order
theorem me_ends_order (a0 a1 : D) (Q : D → Int → Prop) (X : Er → Int → Prop) (z : Int) : m_ends_order [a0, a1] Q X z = s_ends_order [Sl.fr a0, Sl.fr a1, Sl.no] (outF Q) (fun e _ z => X e z) z := rfl
theorem sc_ends_order : FnScope N_ends_order P_ends_order (defScope (top 16)) := ⟨rfl, rfl, rfl, by decide +kernel, rfl, by decide +kernel, by decide +kernel⟩
theorem ok_ends_order (B : Ctx P w K mg base) : ∃ fd, GFn P w K mg base "ends_order" 2 (He.fAd K ("ends_order", none)) fd P_ends_order (spF K mg 2 m_ends_order) := by
  obtain ⟨fd, F⟩ := B.2.2.1.def_ 13 (d := d16) rfl
  obtain ⟨fd_fraction_order, g_fraction_order⟩ := ok_fraction_order B
  have mb_int := mbf_int B
  refine ⟨fd, ⟨fnF_of (k := 1) F sc_ends_order fun cdv A outer s H E pa F0 kx => ?_, mg_ends_order B, F.kp, bg_pos (F.bindsN fun _ _ _ _ _ _ us hl => match us, hl with | [_, _], _ => rfl)⟩⟩
  exact (xss_cons (xs_set 2 (xe_call g_fraction_order.g kx (by omega) g_fraction_order.bg rfl (xa_cons (xe_ix rfl (xp_var 0 (pv 0)) (XE.p xe_int) (fun _ _ => rfl)) (xa_cons (xe_ix rfl (xp_var 1 (pv 1)) (XE.p xe_int) (fun _ _ => rfl)) xa_nil))) kx.nd rfl (by first | exact .inl rfl | exact .inr rfl)) (xss_one (xs_ret (xe_if (xt_cmp (op_ne2 kx.hu) o_ne (xp_var 2 (pv 2)) (XE.p xe_int) rfl) (xe_var 2 (pv 2)) (xe_op op_sub (o_sub) (XE.p (xe_int1 rfl mb_int (XE.p (xe_ix rfl (xp_var 0 (pv 0)) (XE.p xe_int) (fun _ _ => rfl))))) (XE.p (xe_int1 rfl mb_int (XE.p (xe_ix rfl (xp_var 1 (pv 1)) (XE.p xe_int) (fun _ _ => rfl))))))))))

/-! ### set_reaches -/
abbrev N_set_reaches : List Str := ["one", "later", "order"]
abbrev P_set_reaches : List Str := ["one", "later"]
def s_set_reaches : E Fl := (sSeq (sAsg (eCall 2 2 0 m_fraction_order gL (aC (bO dIx (ePk 1) (ep (.int 0))) (aC (bO dIx (ePk 0) (ep (.int 2))) aN)) aN) (gN 2))
    (sRet (eOrV (bO dLt (ePk 2) (ep (.int 0))) (eAndV (bO dEq (ePk 2) (ep (.int 0))) (eOrV (bO dIx (ePk 1) (ep (.int 1))) (bO dIx (ePk 0) (ep (.int 3))))))))
def m_set_reaches : List D → E0 D := dF 3 s_set_reaches
theorem me_set_reaches (a0 a1 : D) (Q : D → Int → Prop) (X : Er → Int → Prop) (z : Int) : m_set_reaches [a0, a1] Q X z = s_set_reaches [Sl.fr a0, Sl.fr a1, Sl.no] (outF Q) (fun e _ z => X e z) z := rfl
theorem sc_set_reaches : FnScope N_set_reaches P_set_reaches (defScope (top 17)) := ⟨rfl, rfl, rfl, by decide +kernel, rfl, by decide +kernel, by decide +kernel⟩
theorem ok_set_reaches (B : Ctx P w K mg base) : ∃ fd, GFn P w K mg base "set_reaches" 2 (He.fAd K ("set_reaches", none)) fd P_set_reaches (spF K mg 2 m_set_reaches) := by
  obtain ⟨fd, F⟩ := B.2.2.1.def_ 14 (d := d17) rfl
  obtain ⟨fd_fraction_order, g_fraction_order⟩ := ok_fraction_order B
  refine ⟨fd, ⟨fnF_of (k := 1) F sc_set_reaches fun cdv A outer s H E pa F0 kx => ?_, mg_set_reaches B, F.kp, bg_pos (F.bindsN fun _ _ _ _ _ _ us hl => match us, hl with | [_, _], _ => rfl)⟩⟩
  exact (xss_cons (xs_set 2 (xe_call g_fraction_order.g kx (by omega) g_fraction_order.bg rfl (xa_cons (xe_ix rfl (xp_var 1 (pv 1)) (XE.p xe_int) (fun _ _ => rfl)) (xa_cons (xe_ix rfl (xp_var 0 (pv 0)) (XE.p xe_int) (fun _ _ => rfl)) xa_nil))) kx.nd rfl (by first | exact .inl rfl | exact .inr rfl)) (xss_one (xs_ret (xe_or (xe_cmp op_lt2 o_lt (xp_var 2 (pv 2)) (XE.p xe_int) rfl) (xe_one (xe_and (xe_cmp (op_eq2 kx.hu) o_eq (xp_var 2 (pv 2)) (XE.p xe_int) rfl) (xe_one (xe_or (xe_ix rfl (xp_var 1 (pv 1)) (XE.p xe_int) (fun _ _ => rfl)) (xe_one (xe_ix rfl (xp_var 0 (pv 0)) (XE.p xe_int) (fun _ _ => rfl)))))))))))

/-! ### told_set -/
abbrev N_told_set : List Str := ["stretches", "found", "row", "later", "stretch"]
abbrev P_told_set : List Str := ["stretches"]
def p0_told_set (ρ : Rho) (Q : D → Rho → Int → Prop) (X : Er → Rho → Int → Prop) (z : Int) : Prop := (eTup (aC (eVar 4) aN)) ρ Q X z
def p1_told_set (ρ : Rho) (Q : Fl → Rho → Int → Prop) (X : Er → Rho → Int → Prop) (z : Int) : Prop := (sSeq (sAsg (bO dIx (ePk 2) (ep (.int 0))) (gN 3))
    (sIf (eOr (eT (bO dEq (ePk 1) (oP (eLst aN)))) (tN (tV (eCall 2 2 0 m_set_reaches gL (aC (bO dIx (ePk 1) (uO dNeg (ep (.int 1)))) (aC (eVar 3) aN)) aN))))
    (sApp 1 (eVar 3))
    (sIf (eT (bO dLt (eCall 2 2 0 m_ends_order gL (aC (bO dIx (ePk 1) (uO dNeg (ep (.int 1)))) (aC (eVar 3) aN)) aN) (ep (.int 0))))
    (sSetI 1 (bO dAdd (eb (bO dIx (ePk 1) (uO dNeg (ep (.int 1)))) fun d => eb (ep none) fun lo => eb (eb (ep (.int 2)) fPart) fun hi => fSlE d lo hi) (eb (ePk 3) fun d => eb (eb (ep (.int 2)) fPart) fun lo => eb (ep none) fun hi => fSlE d lo hi)) (uO dNeg (ep (.int 1))))
    (ep .nx)))) ρ Q X z
def s_told_set : E Fl := (sSeq (sAsgO (eLst aN) 1)
    (sSeq (sFor (eb (oP (eCall 1 1 0 m_rows_in_order gL (aC (oP (eLc [4] (eb (eVar 0) fSeqI) (gN 4) (ep true) p0_told_set)) aN) aN)) fSeqI) (gN 2) p1_told_set)
    (sRetV 1)))
def m_told_set : List D → E0 (List D) := dO 5 s_told_set
theorem me_told_set (a0 : D) (Q : List D → Int → Prop) (X : Er → Int → Prop) (z : Int) : m_told_set [a0] Q X z = s_told_set [Sl.fr a0, Sl.no, Sl.no, Sl.no, Sl.no] (outO Q) (fun e _ z => X e z) z := rfl
theorem sc_told_set : FnScope N_told_set P_told_set (defScope (top 18)) := ⟨rfl, rfl, rfl, by decide +kernel, rfl, by decide +kernel, by decide +kernel⟩
theorem ok_told_set (B : Ctx P w K mg base) : ∃ fd, GFn P w K mg base "told_set" 44 (He.fAd K ("told_set", none)) fd P_told_set (spO K mg 1 m_told_set) := by
  obtain ⟨fd, F⟩ := B.2.2.1.def_ 15 (d := d18) rfl
  obtain ⟨fd_rows_in_order, g_rows_in_order⟩ := ok_rows_in_order B
  obtain ⟨fd_set_reaches, g_set_reaches⟩ := ok_set_reaches B
  obtain ⟨fd_ends_order, g_ends_order⟩ := ok_ends_order B
  refine ⟨fd, ⟨fnO_of (k := 43) F sc_told_set fun cdv A outer s H E pa F0 kx => ?_, mg_told_set B, F.kp, bg_pos (F.bindsN fun _ _ _ _ _ _ us hl => match us, hl with | [_], _ => rfl)⟩⟩
  exact (xss_cons (xs_setO 1 (xo_lst xa_nil) kx.nd rfl (by first | exact .inl rfl | exact .inr rfl)) (xss_cons (xs_for kx (xi_seq rfl (XO.fz (xo_call g_rows_in_order.g kx (by omega) g_rows_in_order.bg rfl (xa_cons (XO.fz (xo_lc (own := [("stretch", 4)]) kx (xi_seq rfl (xe_var 0 (pv 0))) (by kernel_rfl) (fun _ _ _ _ _ _ kx => (xg_name 4 (pg_name kx.nd rfl (by first | exact .inl rfl | exact .inr rfl)))) (fun _ _ _ _ _ _ kx => xts_nil) (fun _ _ _ _ _ _ kx => (xe_tup (xa_cons (xe_var 4 (pv 4)) xa_nil))) (by decide))) xa_nil)))) (xg_name 2 (pg_name kx.nd rfl (by first | exact .inl rfl | exact .inr rfl))) (xss_cons (xs_set 3 (xe_ix rfl (xp_var 2 (pv 2)) (XE.p xe_int) (fun _ _ => rfl)) kx.nd rfl (by first | exact .inl rfl | exact .inr rfl)) (xss_one (xs_if (XW.t (xw_or (xt_cmp (op_eq2 kx.hu) o_eq (xp_var 1 (pv 1)) (XO.p (xo_lst xa_nil)) rfl) (xw_or1 (xt_not (xt_tru rfl (XE.p (xe_call g_set_reaches.g kx (by omega) g_set_reaches.bg rfl (xa_cons (xe_ix rfl (xp_var 1 (pv 1)) (XE.p (xe_neg (XE.p xe_int))) (fun _ _ => rfl)) (xa_cons (xe_var 3 (pv 3)) xa_nil))))))))) (xss_one (xs_app 1 kx (pv 1) (xe_var 3 (pv 3)))) (xss_one (xs_if (xt_cmp op_lt2 o_lt (XE.p (xe_call g_ends_order.g kx (by omega) g_ends_order.bg rfl (xa_cons (xe_ix rfl (xp_var 1 (pv 1)) (XE.p (xe_neg (XE.p xe_int))) (fun _ _ => rfl)) (xa_cons (xe_var 3 (pv 3)) xa_nil)))) (XE.p xe_int) rfl) (xss_one (xs_setI 1 (pv 1) (xe_op op_add4 (o_add) (XE.p (xe_slice rfl (XE.p (xe_ix rfl (xp_var 1 (pv 1)) (XE.p (xe_neg (XE.p xe_int))) (fun _ _ => rfl))) xpt_none (xpt_some (XE.p xe_int)))) (XE.p (xe_slice rfl (xp_var 3 (pv 3)) (xpt_some (XE.p xe_int)) xpt_none))) (xe_neg (XE.p xe_int)))) xss_nil)))))) (xss_one (xs_retV 1 (pv 1)))))

/-! ### check_ranges -/
abbrev N_check_ranges : List Str := ["stretches", "stretch"]
abbrev P_check_ranges : List Str := ["stretches"]
def p0_check_ranges (ρ : Rho) (Q : Fl → Rho → Int → Prop) (X : Er → Rho → Int → Prop) (z : Int) : Prop := (sIf (tN (tV (eCall 1 1 0 m_is_range gL (aC (eVar 1) aN) aN)))
    (sRaise "InvalidRange" (eVar 1))
    (ep .nx)) ρ Q X z
def s_check_ranges : E Fl := (sFor (eb (eVar 0) fSeqI) (gN 1) p0_check_ranges)
def m_check_ranges : List D → E0 D := dF 2 s_check_ranges
theorem me_check_ranges (a0 : D) (Q : D → Int → Prop) (X : Er → Int → Prop) (z : Int) : m_check_ranges [a0] Q X z = s_check_ranges [Sl.fr a0, Sl.no] (outF Q) (fun e _ z => X e z) z := rfl
theorem sc_check_ranges : FnScope N_check_ranges P_check_ranges (defScope (top 20)) := ⟨rfl, rfl, rfl, by decide +kernel, rfl, by decide +kernel, by decide +kernel⟩
theorem ok_check_ranges (B : Ctx P w K mg base) : ∃ fd, GFn P w K mg base "check_ranges" 5 (He.fAd K ("check_ranges", none)) fd P_check_ranges (spF K mg 1 m_check_ranges) := by
  obtain ⟨fd, F⟩ := B.2.2.1.def_ 16 (d := d20) rfl
  obtain ⟨fd_is_range, g_is_range⟩ := ok_is_range B
  obtain ⟨fI_InvalidRange, i1_InvalidRange, i2_InvalidRange⟩ := ini_InvalidRange B
  refine ⟨fd, ⟨fnF_of (k := 4) F sc_check_ranges fun cdv A outer s H E pa F0 kx => ?_, mg_check_ranges B, F.kp, bg_pos (F.bindsN fun _ _ _ _ _ _ us hl => match us, hl with | [_], _ => rfl)⟩⟩
  exact (xss_one (xs_for kx (xi_seq rfl (xe_var 0 (pv 0))) (xg_name 1 (pg_name kx.nd rfl (by first | exact .inl rfl | exact .inr rfl))) (xss_one (xs_if (xt_not (xt_tru rfl (XE.p (xe_call g_is_range.g kx (by omega) g_is_range.bg rfl (xa_cons (xe_var 1 (pv 1)) xa_nil))))) (xss_one (xs_raise kx (ec_InvalidRange B) i1_InvalidRange (by omega) i2_InvalidRange rfl (mg_InvalidRange B) (xe_var 1 (pv 1)))) xss_nil))))

/-! ### checked_set -/
abbrev N_checked_set : List Str := ["stretches"]
abbrev P_checked_set : List Str := ["stretches"]
def s_checked_set : E Fl := (sSeq (sExpr (eCall 1 1 0 m_check_ranges gL (aC (eVar 0) aN) aN))
    (sRetO (eCall 1 1 0 m_told_set gL (aC (eVar 0) aN) aN)))
def m_checked_set : List D → E0 (List D) := dO 1 s_checked_set
theorem me_checked_set (a0 : D) (Q : List D → Int → Prop) (X : Er → Int → Prop) (z : Int) : m_checked_set [a0] Q X z = s_checked_set [Sl.fr a0] (outO Q) (fun e _ z => X e z) z := rfl
theorem sc_checked_set : FnScope N_checked_set P_checked_set (defScope (top 21)) := ⟨rfl, rfl, rfl, by decide +kernel, rfl, by decide +kernel, by decide +kernel⟩
theorem ok_checked_set (B : Ctx P w K mg base) : ∃ fd, GFn P w K mg base "checked_set" 45 (He.fAd K ("checked_set", none)) fd P_checked_set (spO K mg 1 m_checked_set) := by
  obtain ⟨fd, F⟩ := B.2.2.1.def_ 17 (d := d21) rfl
  obtain ⟨fd_told_set, g_told_set⟩ := ok_told_set B
  obtain ⟨fd_check_ranges, g_check_ranges⟩ := ok_check_ranges B
  refine ⟨fd, ⟨fnO_of (k := 44) F sc_checked_set fun cdv A outer s H E pa F0 kx => ?_, mg_checked_set B, F.kp, bg_pos (F.bindsN fun _ _ _ _ _ _ us hl => match us, hl with | [_], _ => rfl)⟩⟩
  exact (xss_cons (xs_expr (XE.p (xe_call g_check_ranges.g kx (by omega) g_check_ranges.bg rfl (xa_cons (xe_var 0 (pv 0)) xa_nil)))) (xss_one (xs_retO (xo_call g_told_set.g kx (by omega) g_told_set.bg rfl (xa_cons (xe_var 0 (pv 0)) xa_nil)))))

/-! ### greatest_width -/
abbrev N_greatest_width : List Str := ["told", "widest_yet", "low", "low_in", "high", "high_in", "apart"]
abbrev P_greatest_width : List Str := ["told"]
def p0_greatest_width (ρ : Rho) (Q : Fl → Rho → Int → Prop) (X : Er → Rho → Int → Prop) (z : Int) : Prop := (sSeq (sAsg (eCall 2 2 0 m_fraction gL (aC (bO dSub (bO dMul (bO dIx (ePk 4) (ep (.int 0))) (bO dIx (ePk 2) (ep (.int 1)))) (bO dMul (bO dIx (ePk 2) (ep (.int 0))) (bO dIx (ePk 4) (ep (.int 1))))) (aC (bO dMul (bO dIx (ePk 4) (ep (.int 1))) (bO dIx (ePk 2) (ep (.int 1)))) aN)) aN) (gN 6))
    (sIf (eT (bO dGt (eCall 2 2 0 m_compare gL (aC (eVar 6) (aC (eVar 1) aN)) aN) (ep (.int 0))))
    (sAsg (eVar 6) (gN 1))
    (ep .nx))) ρ Q X z
def s_greatest_width : E Fl := (sSeq (sAsg (eTup (aC (ep (.int 0)) (aC (ep (.int 1)) aN))) (gN 1))
    (sSeq (sFor (eb (eVar 0) fSeqI) (gTp 4 (gCn (gN 2) (gCn (gN 3) (gCn (gN 4) (gCn (gN 5) gNl))))) p0_greatest_width)
    (sRet (eVar 1))))
def m_greatest_width : List D → E0 D := dF 7 s_greatest_width
theorem me_greatest_width (a0 : D) (Q : D → Int → Prop) (X : Er → Int → Prop) (z : Int) : m_greatest_width [a0] Q X z = s_greatest_width [Sl.fr a0, Sl.no, Sl.no, Sl.no, Sl.no, Sl.no, Sl.no] (outF Q) (fun e _ z => X e z) z := rfl
theorem sc_greatest_width : FnScope N_greatest_width P_greatest_width (defScope (top 23)) := ⟨rfl, rfl, rfl, by decide +kernel, rfl, by decide +kernel, by decide +kernel⟩
theorem ok_greatest_width (B : Ctx P w K mg base) : ∃ fd, GFn P w K mg base "greatest_width" 6 (He.fAd K ("greatest_width", none)) fd P_greatest_width (spF K mg 1 m_greatest_width) := by
  obtain ⟨fd, F⟩ := B.2.2.1.def_ 18 (d := d23) rfl
  obtain ⟨fd_compare, g_compare⟩ := ok_compare B
  obtain ⟨fd_fraction, g_fraction⟩ := ok_fraction B
  refine ⟨fd, ⟨fnF_of (k := 5) F sc_greatest_width fun cdv A outer s H E pa F0 kx => ?_, mg_greatest_width B, F.kp, bg_pos (F.bindsN fun _ _ _ _ _ _ us hl => match us, hl with | [_], _ => rfl)⟩⟩
  exact (xss_cons (xs_set 1 (xe_tup (xa_cons xe_int (xa_cons xe_int xa_nil))) kx.nd rfl (by first | exact .inl rfl | exact .inr rfl)) (xss_cons (xs_for kx (xi_seq rfl (xe_var 0 (pv 0))) (xg_tup rfl kx.calm (xgs_cons (xg_name 2 (pg_name kx.nd rfl (by first | exact .inl rfl | exact .inr rfl))) (xgs_cons (xg_name 3 (pg_name kx.nd rfl (by first | exact .inl rfl | exact .inr rfl))) (xgs_cons (xg_name 4 (pg_name kx.nd rfl (by first | exact .inl rfl | exact .inr rfl))) (xgs_cons (xg_name 5 (pg_name kx.nd rfl (by first | exact .inl rfl | exact .inr rfl))) xgs_nil))))) (xss_cons (xs_set 6 (xe_call g_fraction.g kx (by omega) g_fraction.bg rfl (xa_cons (xe_op op_sub (o_sub) (XE.p (xe_op op_mulG (o_mul) (XE.p (xe_ix rfl (xp_var 4 (pv 4)) (XE.p xe_int) (fun _ _ => rfl))) (XE.p (xe_ix rfl (xp_var 2 (pv 2)) (XE.p xe_int) (fun _ _ => rfl))))) (XE.p (xe_op op_mulG (o_mul) (XE.p (xe_ix rfl (xp_var 2 (pv 2)) (XE.p xe_int) (fun _ _ => rfl))) (XE.p (xe_ix rfl (xp_var 4 (pv 4)) (XE.p xe_int) (fun _ _ => rfl)))))) (xa_cons (xe_op op_mulG (o_mul) (XE.p (xe_ix rfl (xp_var 4 (pv 4)) (XE.p xe_int) (fun _ _ => rfl))) (XE.p (xe_ix rfl (xp_var 2 (pv 2)) (XE.p xe_int) (fun _ _ => rfl)))) xa_nil))) kx.nd rfl (by first | exact .inl rfl | exact .inr rfl)) (xss_one (xs_if (xt_cmp op_gt o_gt (XE.p (xe_call g_compare.g kx (by omega) g_compare.bg rfl (xa_cons (xe_var 6 (pv 6)) (xa_cons (xe_var 1 (pv 1)) xa_nil)))) (XE.p xe_int) rfl) (xss_one (xs_set 1 (xe_var 6 (pv 6)) kx.nd rfl (by first | exact .inl rfl | exact .inr rfl))) xss_nil)))) (xss_one (xs_ret (xe_var 1 (pv 1))))))

/-! ### widest -/
abbrev N_widest : List Str := ["told"]
abbrev P_widest : List Str := ["told"]
def s_widest : E Fl := (sRet (eCall 1 1 0 m_greatest_width gL (aC (oP (eCall 1 1 0 m_checked_set gL (aC (eVar 0) aN) aN)) aN) aN))
def m_widest : List D → E0 D := dF 1 s_widest
theorem me_widest (a0 : D) (Q : D → Int → Prop) (X : Er → Int → Prop) (z : Int) : m_widest [a0] Q X z = s_widest [Sl.fr a0] (outF Q) (fun e _ z => X e z) z := rfl
theorem sc_widest : FnScope N_widest P_widest (defScope (top 24)) := ⟨rfl, rfl, rfl, by decide +kernel, rfl, by decide +kernel, by decide +kernel⟩
theorem ok_widest (B : Ctx P w K mg base) : ∃ fd, GFn P w K mg base "widest" 46 (He.fAd K ("widest", none)) fd P_widest (spF K mg 1 m_widest) ∧ BG K fd P_widest ["told"] 0 (gP [0]) (gP [0]) := by
  obtain ⟨fd, F⟩ := B.2.2.1.def_ 19 (d := d24) rfl
  obtain ⟨fd_greatest_width, g_greatest_width⟩ := ok_greatest_width B
  obtain ⟨fd_checked_set, g_checked_set⟩ := ok_checked_set B
  refine ⟨fd, ⟨fnF_of (k := 45) F sc_widest fun cdv A outer s H E pa F0 kx => ?_, mg_widest B, F.kp, bg_pos (F.bindsN fun _ _ _ _ _ _ us hl => match us, hl with | [_], _ => rfl)⟩, bg_kw F 0 [0] fun _ _ _ _ _ _ us ws h1 h2 => match us, ws, h1, h2 with | [], [_], _, _ => rfl⟩
  exact (xss_one (xs_ret (xe_call g_greatest_width.g kx (by omega) g_greatest_width.bg rfl (xa_cons (XO.fz (xo_call g_checked_set.g kx (by omega) g_checked_set.bg rfl (xa_cons (xe_var 0 (pv 0)) xa_nil))) xa_nil))))

/-! ### _law_dv_purse -/
abbrev N__law_dv_purse : List Str := ["_law_script", "_law_rank", "_law_cell"]
abbrev P__law_dv_purse : List Str := ["_law_script", "_law_rank"]
def s__law_dv_purse : E Fl := (sSeq (sAsg (eIf (eT (bO dLt (ePk 1) (uO dLen (ePk 0)))) (bO dIx (ePk 0) (ePk 1)) (ep (.int 0))) (gN 2))
    (sRetO (eLst (aC (bO dMax (ep (.int 0)) (bO dSub (uO dAbs (ePk 2)) (bO dPow (ep (.int 10)) (ep (.int 18))))) (aC (bO dMod (uO dInt (bO dAdd (bO dAdd (bO dMul (ePk 2) (ep (.int 48817))) (bO dMul (ePk 1) (ep (.int 6700417)))) (ep (.int 224737)))) (bO dAdd (bO dPow (ep (.int 10)) (ep (.int 24))) (ep (.int 7)))) (aC (ep (.int 0)) aN))))))
def m__law_dv_purse : List D → E0 (List D) := dO 3 s__law_dv_purse
theorem me__law_dv_purse (a0 a1 : D) (Q : List D → Int → Prop) (X : Er → Int → Prop) (z : Int) : m__law_dv_purse [a0, a1] Q X z = s__law_dv_purse [Sl.fr a0, Sl.fr a1, Sl.no] (outO Q) (fun e _ z => X e z) z := rfl
theorem sc__law_dv_purse : FnScope N__law_dv_purse P__law_dv_purse (defScope (top 26)) := ⟨rfl, rfl, rfl, by decide +kernel, rfl, by decide +kernel, by decide +kernel⟩
theorem ok__law_dv_purse (B : Ctx P w K mg base) : ∃ fd, GFn P w K mg base "_law_dv_purse" 1 (He.fAd K ("_law_dv_purse", none)) fd P__law_dv_purse (spO K mg 2 m__law_dv_purse) := by
  obtain ⟨fd, F⟩ := B.2.2.1.def_ 20 (d := d26) rfl
  have mb_abs := mbf_abs B
  have mb_int := mbf_int B
  have mb_len := mbf_len B
  have mb_max := mbf_max B
  refine ⟨fd, ⟨fnO_of (k := 0) F sc__law_dv_purse fun cdv A outer s H E pa F0 kx => ?_, mg__law_dv_purse B, F.kp, bg_pos (F.bindsN fun _ _ _ _ _ _ us hl => match us, hl with | [_, _], _ => rfl)⟩⟩
  exact (xss_cons (xs_set 2 (xe_if (xt_cmp op_lt2 o_lt (xp_var 1 (pv 1)) (XE.p (xe_len rfl rfl mb_len (xp_var 0 (pv 0)))) rfl) (xe_ix rfl (xp_var 0 (pv 0)) (xp_var 1 (pv 1)) (fun _ _ => rfl)) xe_int) kx.nd rfl (by first | exact .inl rfl | exact .inr rfl)) (xss_one (xs_retO (xo_lst (xa_cons (xe_max2 kx rfl mb_max (XE.p xe_int) (XE.p (xe_op op_sub (o_sub) (XE.p (xe_abs rfl mb_abs (xp_var 2 (pv 2)))) (XE.p (xe_op op_powG (o_pow) (XE.p xe_int) (XE.p xe_int)))))) (xa_cons (xe_op op_modN (o_mod) (XE.p (xe_int1 rfl mb_int (XE.p (xe_op op_add4 (o_add) (XE.p (xe_op op_add4 (o_add) (XE.p (xe_op op_mulG (o_mul) (xp_var 2 (pv 2)) (XE.p xe_int))) (XE.p (xe_op op_mulG (o_mul) (xp_var 1 (pv 1)) (XE.p xe_int))))) (XE.p xe_int))))) (XE.p (xe_op op_add4 (o_add) (XE.p (xe_op op_powG (o_pow) (XE.p xe_int) (XE.p xe_int))) (XE.p xe_int)))) (xa_cons xe_int xa_nil)))))))

/-! ### _law_dv_coin -/
abbrev N__law_dv_coin : List Str := ["_law_purse", "_law_many", "_law_mixed", "_law_drawn"]
abbrev P__law_dv_coin : List Str := ["_law_purse", "_law_many"]
def s__law_dv_coin : E Fl := (sSeq (sIf (eT (bO dGt (ePz 0 0) (ep (.int 0))))
    (sSeq (sAsg (bO dMod (uO dInt (ePz 0 0)) (ePk 1)) (gN 3))
    (sSeq (sPz 0 0 (bO dDiv (ePz 0 0) (ePk 1)))
    (sRet (eVar 3))))
    (ep .nx))
    (sSeq (sPz 0 2 (bO dAdd (ePz 0 2) (ep (.int 1))))
    (sSeq (sAsg (bO dMod (bO dPow (uO dInt (bO dAdd (ePz 0 1) (bO dMul (ep (.int 1500450271)) (ePz 0 2)))) (ep (.int 3))) (bO dAdd (bO dPow (ep (.int 10)) (ep (.int 25))) (ep (.int 13)))) (gN 2))
    (sSeq (sAsg (bO dMod (bO dPow (uO dInt (bO dAdd (ePk 2) (bO dMul (ep (.int 3267000013)) (ePz 0 2)))) (ep (.int 2))) (bO dAdd (bO dPow (ep (.int 10)) (ep (.int 24))) (ep (.int 7)))) (gN 2))
    (sRet (bO dMod (uO dInt (bO dDiv (ePk 2) (ep (.int 4096)))) (ePk 1)))))))
def m__law_dv_coin : List D → E0 D := dF 4 s__law_dv_coin
theorem me__law_dv_coin (a0 a1 : D) (Q : D → Int → Prop) (X : Er → Int → Prop) (z : Int) : m__law_dv_coin [a0, a1] Q X z = s__law_dv_coin [Sl.fr a0, Sl.fr a1, Sl.no, Sl.no] (outF Q) (fun e _ z => X e z) z := rfl
theorem sc__law_dv_coin : FnScope N__law_dv_coin P__law_dv_coin (defScope (top 27)) := ⟨rfl, rfl, rfl, by decide +kernel, rfl, by decide +kernel, by decide +kernel⟩
theorem ok__law_dv_coin (B : Ctx P w K mg base) : ∃ fd, GFn P w K mg base "_law_dv_coin" 1 (He.fAd K ("_law_dv_coin", none)) fd P__law_dv_coin (spF K mg 2 m__law_dv_coin) := by
  obtain ⟨fd, F⟩ := B.2.2.1.def_ 21 (d := d27) rfl
  have mb_int := mbf_int B
  refine ⟨fd, ⟨fnF_of (k := 0) F sc__law_dv_coin fun cdv A outer s H E pa F0 kx => ?_, mg__law_dv_coin B, F.kp, bg_pos (F.bindsN fun _ _ _ _ _ _ us hl => match us, hl with | [_, _], _ => rfl)⟩⟩
  exact (xss_cons (xs_if (xt_cmp op_gt o_gt (XE.p (xe_pz 0 0 rfl (pv 0) (fun _ _ => rfl))) (XE.p xe_int) rfl) (xss_cons (xs_set 3 (xe_op op_modN (o_mod) (XE.p (xe_int1 rfl mb_int (XE.p (xe_pz 0 0 rfl (pv 0) (fun _ _ => rfl))))) (xp_var 1 (pv 1))) kx.nd rfl (by first | exact .inl rfl | exact .inr rfl)) (xss_cons (xs_pz 0 0 (pv 0) (xe_op op_divG (o_div) (XE.p (xe_pz 0 0 rfl (pv 0) (fun _ _ => rfl))) (xp_var 1 (pv 1)))) (xss_one (xs_ret (xe_var 3 (pv 3)))))) xss_nil) (xss_cons (xs_pz 0 2 (pv 0) (xe_op op_add4 (o_add) (XE.p (xe_pz 0 2 rfl (pv 0) (fun _ _ => rfl))) (XE.p xe_int))) (xss_cons (xs_set 2 (xe_op op_modN (o_mod) (XE.p (xe_op op_powG (o_pow) (XE.p (xe_int1 rfl mb_int (XE.p (xe_op op_add4 (o_add) (XE.p (xe_pz 0 1 rfl (pv 0) (fun _ _ => rfl))) (XE.p (xe_op op_mulG (o_mul) (XE.p xe_int) (XE.p (xe_pz 0 2 rfl (pv 0) (fun _ _ => rfl))))))))) (XE.p xe_int))) (XE.p (xe_op op_add4 (o_add) (XE.p (xe_op op_powG (o_pow) (XE.p xe_int) (XE.p xe_int))) (XE.p xe_int)))) kx.nd rfl (by first | exact .inl rfl | exact .inr rfl)) (xss_cons (xs_set 2 (xe_op op_modN (o_mod) (XE.p (xe_op op_powG (o_pow) (XE.p (xe_int1 rfl mb_int (XE.p (xe_op op_add4 (o_add) (xp_var 2 (pv 2)) (XE.p (xe_op op_mulG (o_mul) (XE.p xe_int) (XE.p (xe_pz 0 2 rfl (pv 0) (fun _ _ => rfl))))))))) (XE.p xe_int))) (XE.p (xe_op op_add4 (o_add) (XE.p (xe_op op_powG (o_pow) (XE.p xe_int) (XE.p xe_int))) (XE.p xe_int)))) kx.nd rfl (by first | exact .inl rfl | exact .inr rfl)) (xss_one (xs_ret (xe_op op_modN (o_mod) (XE.p (xe_int1 rfl mb_int (XE.p (xe_op op_divG (o_div) (xp_var 2 (pv 2)) (XE.p xe_int))))) (xp_var 1 (pv 1)))))))))

/-! ### _law_dv_shared -/
abbrev N__law_dv_shared : List Str := ["_law_left_one", "_law_right_one", "_law_turn"]
abbrev P__law_dv_shared : List Str := ["_law_left_one", "_law_right_one"]
def p0__law_dv_shared (ρ : Rho) (Q : Fl → Rho → Int → Prop) (X : Er → Rho → Int → Prop) (z : Int) : Prop := (sSeq (sIf (eT (bO dEq (ePk 1) (ep (.int 0))))
    (sRet (eVar 0))
    (ep .nx))
    (sPar 0 1 (aC (eVar 1) (aC (bO dMod (uO dInt (ePk 0)) (uO dInt (ePk 1))) aN)))) ρ Q X z
def s__law_dv_shared : E Fl := (sSeq (sPar 0 1 (aC (uO dAbs (ePk 0)) (aC (uO dAbs (ePk 1)) aN)))
    (sSeq (sFor (eb (aC (ep (.int 400)) aN) fRng1) (gN 2) p0__law_dv_shared)
    (sRet (eVar 0))))
def m__law_dv_shared : List D → E0 D := dF 3 s__law_dv_shared
theorem me__law_dv_shared (a0 a1 : D) (Q : D → Int → Prop) (X : Er → Int → Prop) (z : Int) : m__law_dv_shared [a0, a1] Q X z = s__law_dv_shared [Sl.fr a0, Sl.fr a1, Sl.no] (outF Q) (fun e _ z => X e z) z := rfl
theorem sc__law_dv_shared : FnScope N__law_dv_shared P__law_dv_shared (defScope (top 28)) := ⟨rfl, rfl, rfl, by decide +kernel, rfl, by decide +kernel, by decide +kernel⟩
theorem ok__law_dv_shared (B : Ctx P w K mg base) : ∃ fd, GFn P w K mg base "_law_dv_shared" 1 (He.fAd K ("_law_dv_shared", none)) fd P__law_dv_shared (spF K mg 2 m__law_dv_shared) := by
  obtain ⟨fd, F⟩ := B.2.2.1.def_ 22 (d := d28) rfl
  have mb_abs := mbf_abs B
  have mb_int := mbf_int B
  have mb_range := mbf_range B
  refine ⟨fd, ⟨fnF_of (k := 0) F sc__law_dv_shared fun cdv A outer s H E pa F0 kx => ?_, mg__law_dv_shared B, F.kp, bg_pos (F.bindsN fun _ _ _ _ _ _ us hl => match us, hl with | [_, _], _ => rfl)⟩⟩
  exact (xss_cons (xs_par 0 1 kx.calm kx.nd rfl rfl (by decide) rfl rfl (xa_cons (xe_abs rfl mb_abs (xp_var 0 (pv 0))) (xa_cons (xe_abs rfl mb_abs (xp_var 1 (pv 1))) xa_nil)) rfl) (xss_cons (xs_for kx (xi_range1 (xa_cons xe_int xa_nil) rfl mb_range) (xg_name 2 (pg_name kx.nd rfl (by first | exact .inl rfl | exact .inr rfl))) (xss_cons (xs_if (xt_cmp (op_eq2 kx.hu) o_eq (xp_var 1 (pv 1)) (XE.p xe_int) rfl) (xss_one (xs_ret (xe_var 0 (pv 0)))) xss_nil) (xss_one (xs_par 0 1 kx.calm kx.nd rfl rfl (by decide) rfl rfl (xa_cons (xe_var 1 (pv 1)) (xa_cons (xe_op op_modN (o_mod) (XE.p (xe_int1 rfl mb_int (xp_var 0 (pv 0)))) (XE.p (xe_int1 rfl mb_int (xp_var 1 (pv 1))))) xa_nil)) rfl)))) (xss_one (xs_ret (xe_var 0 (pv 0))))))

/-! ### _law_dv_ratio -/
abbrev N__law_dv_ratio : List Str := ["_law_top", "_law_base", "_law_share"]
abbrev P__law_dv_ratio : List Str := ["_law_top", "_law_base"]
def s__law_dv_ratio : E Fl := (sSeq (sAsg (bO dMul (eCall 2 2 0 m__law_dv_shared gL (aC (eVar 0) (aC (eVar 1) aN)) aN) (bO dSub (ep (.int 1)) (bO dMul (ep (.int 2)) (uO dInt (bO dLt (ePk 1) (ep (.int 0))))))) (gN 2))
    (sRet (eTup (aC (bO dDiv (ePk 0) (ePk 2)) (aC (bO dDiv (ePk 1) (ePk 2)) aN)))))
def m__law_dv_ratio : List D → E0 D := dF 3 s__law_dv_ratio
theorem me__law_dv_ratio (a0 a1 : D) (Q : D → Int → Prop) (X : Er → Int → Prop) (z : Int) : m__law_dv_ratio [a0, a1] Q X z = s__law_dv_ratio [Sl.fr a0, Sl.fr a1, Sl.no] (outF Q) (fun e _ z => X e z) z := rfl
theorem sc__law_dv_ratio : FnScope N__law_dv_ratio P__law_dv_ratio (defScope (top 29)) := ⟨rfl, rfl, rfl, by decide +kernel, rfl, by decide +kernel, by decide +kernel⟩
theorem ok__law_dv_ratio (B : Ctx P w K mg base) : ∃ fd, GFn P w K mg base "_law_dv_ratio" 2 (He.fAd K ("_law_dv_ratio", none)) fd P__law_dv_ratio (spF K mg 2 m__law_dv_ratio) := by
  obtain ⟨fd, F⟩ := B.2.2.1.def_ 23 (d := d29) rfl
  obtain ⟨fd__law_dv_shared, g__law_dv_shared⟩ := ok__law_dv_shared B
  have mb_int := mbf_int B
  refine ⟨fd, ⟨fnF_of (k := 1) F sc__law_dv_ratio fun cdv A outer s H E pa F0 kx => ?_, mg__law_dv_ratio B, F.kp, bg_pos (F.bindsN fun _ _ _ _ _ _ us hl => match us, hl with | [_, _], _ => rfl)⟩⟩
  exact (xss_cons (xs_set 2 (xe_op op_mulG (o_mul) (XE.p (xe_call g__law_dv_shared.g kx (by omega) g__law_dv_shared.bg rfl (xa_cons (xe_var 0 (pv 0)) (xa_cons (xe_var 1 (pv 1)) xa_nil)))) (XE.p (xe_op op_sub (o_sub) (XE.p xe_int) (XE.p (xe_op op_mulG (o_mul) (XE.p xe_int) (XE.p (xe_int1 rfl mb_int (XE.p (xe_cmp op_lt2 o_lt (xp_var 1 (pv 1)) (XE.p xe_int) rfl))))))))) kx.nd rfl (by first | exact .inl rfl | exact .inr rfl)) (xss_one (xs_ret (xe_tup (xa_cons (xe_op op_divG (o_div) (xp_var 0 (pv 0)) (xp_var 2 (pv 2))) (xa_cons (xe_op op_divG (o_div) (xp_var 1 (pv 1)) (xp_var 2 (pv 2))) xa_nil))))))

/-! ### _law_dv_less -/
abbrev N__law_dv_less : List Str := ["_law_left_one", "_law_right_one"]
abbrev P__law_dv_less : List Str := ["_law_left_one", "_law_right_one"]
def s__law_dv_less : E Fl := (sRet (bO dLt (bO dMul (bO dIx (ePk 0) (ep (.int 0))) (bO dIx (ePk 1) (ep (.int 1)))) (bO dMul (bO dIx (ePk 1) (ep (.int 0))) (bO dIx (ePk 0) (ep (.int 1))))))
def m__law_dv_less : List D → E0 D := dF 2 s__law_dv_less
theorem me__law_dv_less (a0 a1 : D) (Q : D → Int → Prop) (X : Er → Int → Prop) (z : Int) : m__law_dv_less [a0, a1] Q X z = s__law_dv_less [Sl.fr a0, Sl.fr a1] (outF Q) (fun e _ z => X e z) z := rfl
theorem sc__law_dv_less : FnScope N__law_dv_less P__law_dv_less (defScope (top 30)) := ⟨rfl, rfl, rfl, by decide +kernel, rfl, by decide +kernel, by decide +kernel⟩
theorem ok__law_dv_less (B : Ctx P w K mg base) : ∃ fd, GFn P w K mg base "_law_dv_less" 1 (He.fAd K ("_law_dv_less", none)) fd P__law_dv_less (spF K mg 2 m__law_dv_less) := by
  obtain ⟨fd, F⟩ := B.2.2.1.def_ 24 (d := d30) rfl
  refine ⟨fd, ⟨fnF_of (k := 0) F sc__law_dv_less fun cdv A outer s H E pa F0 kx => ?_, mg__law_dv_less B, F.kp, bg_pos (F.bindsN fun _ _ _ _ _ _ us hl => match us, hl with | [_, _], _ => rfl)⟩⟩
  exact (xss_one (xs_ret (xe_cmp op_lt2 o_lt (XE.p (xe_op op_mulG (o_mul) (XE.p (xe_ix rfl (xp_var 0 (pv 0)) (XE.p xe_int) (fun _ _ => rfl))) (XE.p (xe_ix rfl (xp_var 1 (pv 1)) (XE.p xe_int) (fun _ _ => rfl))))) (XE.p (xe_op op_mulG (o_mul) (XE.p (xe_ix rfl (xp_var 1 (pv 1)) (XE.p xe_int) (fun _ _ => rfl))) (XE.p (xe_ix rfl (xp_var 0 (pv 0)) (XE.p xe_int) (fun _ _ => rfl))))) rfl)))

/-! ### _law_dv_touch -/
abbrev N__law_dv_touch : List Str := ["_law_left_one", "_law_right_one", "_law_ahead", "_law_behind"]
abbrev P__law_dv_touch : List Str := ["_law_left_one", "_law_right_one"]
def p0__law_dv_touch (ρ : Rho) (Q : Fl → Rho → Int → Prop) (X : Er → Rho → Int → Prop) (z : Int) : Prop := (sSeq (sIf (tV (eCall 2 2 0 m__law_dv_less gL (aC (bO dIx (ePk 2) (ep (.int 2))) (aC (bO dIx (ePk 3) (ep (.int 0))) aN)) aN))
    (sRet (ep (.bl false)))
    (ep .nx))
    (sIf (eAnd (eT (bO dEq (bO dIx (ePk 2) (ep (.int 2))) (bO dIx (ePk 3) (ep (.int 0))))) (tN (eOr (tV (bO dIx (ePk 2) (ep (.int 3)))) (tV (bO dIx (ePk 3) (ep (.int 1)))))))
    (sRet (ep (.bl false)))
    (ep .nx))) ρ Q X z
def s__law_dv_touch : E Fl := (sSeq (sFor (eb (eTup (aC (eTup (aC (eVar 0) (aC (eVar 1) aN))) (aC (eTup (aC (eVar 1) (aC (eVar 0) aN))) aN))) fSeqI) (gTp 2 (gCn (gN 2) (gCn (gN 3) gNl))) p0__law_dv_touch)
    (sRet (ep (.bl true))))
def m__law_dv_touch : List D → E0 D := dF 4 s__law_dv_touch
theorem me__law_dv_touch (a0 a1 : D) (Q : D → Int → Prop) (X : Er → Int → Prop) (z : Int) : m__law_dv_touch [a0, a1] Q X z = s__law_dv_touch [Sl.fr a0, Sl.fr a1, Sl.no, Sl.no] (outF Q) (fun e _ z => X e z) z := rfl
theorem sc__law_dv_touch : FnScope N__law_dv_touch P__law_dv_touch (defScope (top 31)) := ⟨rfl, rfl, rfl, by decide +kernel, rfl, by decide +kernel, by decide +kernel⟩
theorem ok__law_dv_touch (B : Ctx P w K mg base) : ∃ fd, GFn P w K mg base "_law_dv_touch" 2 (He.fAd K ("_law_dv_touch", none)) fd P__law_dv_touch (spF K mg 2 m__law_dv_touch) := by
  obtain ⟨fd, F⟩ := B.2.2.1.def_ 25 (d := d31) rfl
  obtain ⟨fd__law_dv_less, g__law_dv_less⟩ := ok__law_dv_less B
  refine ⟨fd, ⟨fnF_of (k := 1) F sc__law_dv_touch fun cdv A outer s H E pa F0 kx => ?_, mg__law_dv_touch B, F.kp, bg_pos (F.bindsN fun _ _ _ _ _ _ us hl => match us, hl with | [_, _], _ => rfl)⟩⟩
  exact (xss_cons (xs_for kx (xi_seq rfl (xe_tup (xa_cons (xe_tup (xa_cons (xe_var 0 (pv 0)) (xa_cons (xe_var 1 (pv 1)) xa_nil))) (xa_cons (xe_tup (xa_cons (xe_var 1 (pv 1)) (xa_cons (xe_var 0 (pv 0)) xa_nil))) xa_nil)))) (xg_tup rfl kx.calm (xgs_cons (xg_name 2 (pg_name kx.nd rfl (by first | exact .inl rfl | exact .inr rfl))) (xgs_cons (xg_name 3 (pg_name kx.nd rfl (by first | exact .inl rfl | exact .inr rfl))) xgs_nil))) (xss_cons (xs_if (xt_tru rfl (XE.p (xe_call g__law_dv_less.g kx (by omega) g__law_dv_less.bg rfl (xa_cons (xe_ix rfl (xp_var 2 (pv 2)) (XE.p xe_int) (fun _ _ => rfl)) (xa_cons (xe_ix rfl (xp_var 3 (pv 3)) (XE.p xe_int) (fun _ _ => rfl)) xa_nil))))) (xss_one (xs_ret xe_bl)) xss_nil) (xss_one (xs_if (XW.t (xw_and (xt_cmp (op_eq2 kx.hu) o_eq (XE.p (xe_ix rfl (xp_var 2 (pv 2)) (XE.p xe_int) (fun _ _ => rfl))) (XE.p (xe_ix rfl (xp_var 3 (pv 3)) (XE.p xe_int) (fun _ _ => rfl))) rfl) (xw_and1 (xt_not (XW.t (xw_or (xt_tru rfl (XE.p (xe_ix rfl (xp_var 2 (pv 2)) (XE.p xe_int) (fun _ _ => rfl)))) (xw_or1 (xt_tru rfl (XE.p (xe_ix rfl (xp_var 3 (pv 3)) (XE.p xe_int) (fun _ _ => rfl))))))))))) (xss_one (xs_ret xe_bl)) xss_nil)))) (xss_one (xs_ret xe_bl)))

/-! ### _law_dv_union -/
abbrev N__law_dv_union : List Str := ["_law_stretches", "_law_found", "_law_low", "_law_low_in", "_law_high", "_law_high_in", "_law_rest", "_law_left_one", "_law_spot"]
abbrev P__law_dv_union : List Str := ["_law_stretches"]
def p0__law_dv_union (ρ : Rho) (Q : D → Rho → Int → Prop) (X : Er → Rho → Int → Prop) (z : Int) : Prop := (eVar 7) ρ Q X z
def p1__law_dv_union (ρ : Rho) (Q : Bool → Rho → Int → Prop) (X : Er → Rho → Int → Prop) (z : Int) : Prop := (tV (eCall 2 2 0 m__law_dv_less gL (aC (bO dIx (ePk 7) (ep (.int 0))) (aC (eVar 2) aN)) aN)) ρ Q X z
def p2__law_dv_union (ρ : Rho) (Q : Fl → Rho → Int → Prop) (X : Er → Rho → Int → Prop) (z : Int) : Prop := (sSeq (sIf (tN (tV (eCall 2 2 0 m__law_dv_touch gL (aC (eVar 7) (aC (eTup (aC (eVar 2) (aC (eVar 3) (aC (eVar 4) (aC (eVar 5) aN))))) aN)) aN)))
    (sSeq (sApp 6 (eVar 7))
    (ep .ct))
    (ep .nx))
    (sSeq (sIf (eOr (tV (eCall 2 2 0 m__law_dv_less gL (aC (bO dIx (ePk 7) (ep (.int 0))) (aC (eVar 2) aN)) aN)) (eAnd (eT (bO dEq (bO dIx (ePk 7) (ep (.int 0))) (ePk 2))) (tV (bO dIx (ePk 7) (ep (.int 1))))))
    (sAsg (eb (ePk 7) fun d => eb (ep none) fun lo => eb (eb (ep (.int 2)) fPart) fun hi => fSlE d lo hi) (gTp 2 (gCn (gN 2) (gCn (gN 3) gNl))))
    (ep .nx))
    (sIf (eOr (tV (eCall 2 2 0 m__law_dv_less gL (aC (eVar 4) (aC (bO dIx (ePk 7) (ep (.int 2))) aN)) aN)) (eAnd (eT (bO dEq (bO dIx (ePk 7) (ep (.int 2))) (ePk 4))) (tV (bO dIx (ePk 7) (ep (.int 3))))))
    (sAsg (eb (ePk 7) fun d => eb (eb (ep (.int 2)) fPart) fun lo => eb (ep none) fun hi => fSlE d lo hi) (gTp 2 (gCn (gN 4) (gCn (gN 5) gNl))))
    (ep .nx)))) ρ Q X z
def p3__law_dv_union (ρ : Rho) (Q : Fl → Rho → Int → Prop) (X : Er → Rho → Int → Prop) (z : Int) : Prop := (sSeq (sAsgO (eLst aN) 6)
    (sSeq (sFor (eb (eVar 1) fSeqI) (gN 7) p2__law_dv_union)
    (sSeq (sAsg (eRoll (uO dLen (oP (eLc [7] (eb (eVar 6) fSeqI) (gN 7) p1__law_dv_union p0__law_dv_union)))) (gN 8))
    (sAsg (oP (bC (oP (bC (oP (eb (ePk 6) fun d => eb (ep none) fun lo => eb (eb (ePk 8) fPart) fun hi => fSlO d lo hi)) (oP (eLst (aC (eTup (aC (eVar 2) (aC (eVar 3) (aC (eVar 4) (aC (eVar 5) aN))))) aN))))) (oP (eb (ePk 6) fun d => eb (eb (ePk 8) fPart) fun lo => eb (ep none) fun hi => fSlO d lo hi)))) (gN 1))))) ρ Q X z
def s__law_dv_union : E Fl := (sSeq (sAsg (oP (eLst aN)) (gN 1))
    (sSeq (sFor (eb (eVar 0) fSeqI) (gTp 4 (gCn (gN 2) (gCn (gN 3) (gCn (gN 4) (gCn (gN 5) gNl))))) p3__law_dv_union)
    (sRet (eVar 1))))
def m__law_dv_union : List D → E0 D := dF 9 s__law_dv_union
theorem me__law_dv_union (a0 : D) (Q : D → Int → Prop) (X : Er → Int → Prop) (z : Int) : m__law_dv_union [a0] Q X z = s__law_dv_union [Sl.fr a0, Sl.no, Sl.no, Sl.no, Sl.no, Sl.no, Sl.no, Sl.no, Sl.no] (outF Q) (fun e _ z => X e z) z := rfl
theorem sc__law_dv_union : FnScope N__law_dv_union P__law_dv_union (defScope (top 32)) := ⟨rfl, rfl, rfl, by decide +kernel, rfl, by decide +kernel, by decide +kernel⟩
theorem ok__law_dv_union (B : Ctx P w K mg base) : ∃ fd, GFn P w K mg base "_law_dv_union" 3 (He.fAd K ("_law_dv_union", none)) fd P__law_dv_union (spF K mg 1 m__law_dv_union) := by
  obtain ⟨fd, F⟩ := B.2.2.1.def_ 26 (d := d32) rfl
  obtain ⟨fd__law_dv_less, g__law_dv_less⟩ := ok__law_dv_less B
  obtain ⟨fd__law_dv_touch, g__law_dv_touch⟩ := ok__law_dv_touch B
  have mb_len := mbf_len B
  refine ⟨fd, ⟨fnF_of (k := 2) F sc__law_dv_union fun cdv A outer s H E pa F0 kx => ?_, mg__law_dv_union B, F.kp, bg_pos (F.bindsN fun _ _ _ _ _ _ us hl => match us, hl with | [_], _ => rfl)⟩⟩
  exact (xss_cons (xs_set 1 (XO.fz (xo_lst xa_nil)) kx.nd rfl (by first | exact .inl rfl | exact .inr rfl)) (xss_cons (xs_for kx (xi_seq rfl (xe_var 0 (pv 0))) (xg_tup rfl kx.calm (xgs_cons (xg_name 2 (pg_name kx.nd rfl (by first | exact .inl rfl | exact .inr rfl))) (xgs_cons (xg_name 3 (pg_name kx.nd rfl (by first | exact .inl rfl | exact .inr rfl))) (xgs_cons (xg_name 4 (pg_name kx.nd rfl (by first | exact .inl rfl | exact .inr rfl))) (xgs_cons (xg_name 5 (pg_name kx.nd rfl (by first | exact .inl rfl | exact .inr rfl))) xgs_nil))))) (xss_cons (xs_setO 6 (xo_lst xa_nil) kx.nd rfl (by first | exact .inl rfl | exact .inr rfl)) (xss_cons (xs_for kx (xi_seq rfl (xe_var 1 (pv 1))) (xg_name 7 (pg_name kx.nd rfl (by first | exact .inl rfl | exact .inr rfl))) (xss_cons (xs_if (xt_not (xt_tru rfl (XE.p (xe_call g__law_dv_touch.g kx (by omega) g__law_dv_touch.bg rfl (xa_cons (xe_var 7 (pv 7)) (xa_cons (xe_tup (xa_cons (xe_var 2 (pv 2)) (xa_cons (xe_var 3 (pv 3)) (xa_cons (xe_var 4 (pv 4)) (xa_cons (xe_var 5 (pv 5)) xa_nil))))) xa_nil)))))) (xss_cons (xs_app 6 kx (pv 6) (xe_var 7 (pv 7))) (xss_one xs_continue)) xss_nil) (xss_cons (xs_if (XW.t (xw_or (xt_tru rfl (XE.p (xe_call g__law_dv_less.g kx (by omega) g__law_dv_less.bg rfl (xa_cons (xe_ix rfl (xp_var 7 (pv 7)) (XE.p xe_int) (fun _ _ => rfl)) (xa_cons (xe_var 2 (pv 2)) xa_nil))))) (xw_or1 (XW.t (xw_and (xt_cmp (op_eq2 kx.hu) o_eq (XE.p (xe_ix rfl (xp_var 7 (pv 7)) (XE.p xe_int) (fun _ _ => rfl))) (xp_var 2 (pv 2)) rfl) (xw_and1 (xt_tru rfl (XE.p (xe_ix rfl (xp_var 7 (pv 7)) (XE.p xe_int) (fun _ _ => rfl)))))))))) (xss_one (xs_asg (xe_slice rfl (xp_var 7 (pv 7)) xpt_none (xpt_some (XE.p xe_int))) (xg_tup rfl kx.calm (xgs_cons (xg_name 2 (pg_name kx.nd rfl (by first | exact .inl rfl | exact .inr rfl))) (xgs_cons (xg_name 3 (pg_name kx.nd rfl (by first | exact .inl rfl | exact .inr rfl))) xgs_nil))))) xss_nil) (xss_one (xs_if (XW.t (xw_or (xt_tru rfl (XE.p (xe_call g__law_dv_less.g kx (by omega) g__law_dv_less.bg rfl (xa_cons (xe_var 4 (pv 4)) (xa_cons (xe_ix rfl (xp_var 7 (pv 7)) (XE.p xe_int) (fun _ _ => rfl)) xa_nil))))) (xw_or1 (XW.t (xw_and (xt_cmp (op_eq2 kx.hu) o_eq (XE.p (xe_ix rfl (xp_var 7 (pv 7)) (XE.p xe_int) (fun _ _ => rfl))) (xp_var 4 (pv 4)) rfl) (xw_and1 (xt_tru rfl (XE.p (xe_ix rfl (xp_var 7 (pv 7)) (XE.p xe_int) (fun _ _ => rfl)))))))))) (xss_one (xs_asg (xe_slice rfl (xp_var 7 (pv 7)) (xpt_some (XE.p xe_int)) xpt_none) (xg_tup rfl kx.calm (xgs_cons (xg_name 4 (pg_name kx.nd rfl (by first | exact .inl rfl | exact .inr rfl))) (xgs_cons (xg_name 5 (pg_name kx.nd rfl (by first | exact .inl rfl | exact .inr rfl))) xgs_nil))))) xss_nil))))) (xss_cons (xs_set 8 (xe_roll (xe_len rfl rfl mb_len (XO.p (xo_lc (own := [("_law_left_one", 7)]) kx (xi_seq rfl (xe_var 6 (pv 6))) (by kernel_rfl) (fun _ _ _ _ _ _ kx => (xg_name 7 (pg_name kx.nd rfl (by first | exact .inl rfl | exact .inr rfl)))) (fun _ _ _ _ _ _ kx => (xts_one (xt_tru rfl (XE.p (xe_call g__law_dv_less.g kx (by omega) g__law_dv_less.bg rfl (xa_cons (xe_ix rfl (xp_var 7 (pv 7)) (XE.p xe_int) (fun _ _ => rfl)) (xa_cons (xe_var 2 (pv 2)) xa_nil))))))) (fun _ _ _ _ _ _ kx => (xe_var 7 (pv 7))) (by decide))))) kx.nd rfl (by first | exact .inl rfl | exact .inr rfl)) (xss_one (xs_set 1 (XO.fz (xo_op op_add4 o_cat (XO.p (xo_op op_add4 o_cat (XO.p (xo_slice rfl (xp_var 6 (pv 6)) xpt_none (xpt_some (xp_var 8 (pv 8))))) (XO.p (xo_lst (xa_cons (xe_tup (xa_cons (xe_var 2 (pv 2)) (xa_cons (xe_var 3 (pv 3)) (xa_cons (xe_var 4 (pv 4)) (xa_cons (xe_var 5 (pv 5)) xa_nil))))) xa_nil))))) (XO.p (xo_slice rfl (xp_var 6 (pv 6)) (xpt_some (xp_var 8 (pv 8))) xpt_none)))) kx.nd rfl (by first | exact .inl rfl | exact .inr rfl))))))) (xss_one (xs_ret (xe_var 1 (pv 1))))))

/-! ### _law_dv_widest -/
abbrev N__law_dv_widest : List Str := ["_law_pieces", "_law_found", "_law_low", "_law_low_in", "_law_high", "_law_high_in", "_law_size"]
abbrev P__law_dv_widest : List Str := ["_law_pieces"]
def p0__law_dv_widest (ρ : Rho) (Q : Fl → Rho → Int → Prop) (X : Er → Rho → Int → Prop) (z : Int) : Prop := (sSeq (sAsg (eCall 2 2 0 m__law_dv_ratio gL (aC (bO dSub (bO dMul (bO dIx (ePk 4) (ep (.int 0))) (bO dIx (ePk 2) (ep (.int 1)))) (bO dMul (bO dIx (ePk 2) (ep (.int 0))) (bO dIx (ePk 4) (ep (.int 1))))) (aC (bO dMul (bO dIx (ePk 4) (ep (.int 1))) (bO dIx (ePk 2) (ep (.int 1)))) aN)) aN) (gN 6))
    (sAsg (eIf (tV (eCall 2 2 0 m__law_dv_less gL (aC (eVar 1) (aC (eVar 6) aN)) aN)) (eVar 6) (eVar 1)) (gN 1))) ρ Q X z
def s__law_dv_widest : E Fl := (sSeq (sAsg (eTup (aC (ep (.int 0)) (aC (ep (.int 1)) aN))) (gN 1))
    (sSeq (sFor (eb (eVar 0) fSeqI) (gTp 4 (gCn (gN 2) (gCn (gN 3) (gCn (gN 4) (gCn (gN 5) gNl))))) p0__law_dv_widest)
    (sRet (eVar 1))))
def m__law_dv_widest : List D → E0 D := dF 7 s__law_dv_widest
theorem me__law_dv_widest (a0 : D) (Q : D → Int → Prop) (X : Er → Int → Prop) (z : Int) : m__law_dv_widest [a0] Q X z = s__law_dv_widest [Sl.fr a0, Sl.no, Sl.no, Sl.no, Sl.no, Sl.no, Sl.no] (outF Q) (fun e _ z => X e z) z := rfl
theorem sc__law_dv_widest : FnScope N__law_dv_widest P__law_dv_widest (defScope (top 33)) := ⟨rfl, rfl, rfl, by decide +kernel, rfl, by decide +kernel, by decide +kernel⟩
theorem ok__law_dv_widest (B : Ctx P w K mg base) : ∃ fd, GFn P w K mg base "_law_dv_widest" 3 (He.fAd K ("_law_dv_widest", none)) fd P__law_dv_widest (spF K mg 1 m__law_dv_widest) := by
  obtain ⟨fd, F⟩ := B.2.2.1.def_ 27 (d := d33) rfl
  obtain ⟨fd__law_dv_less, g__law_dv_less⟩ := ok__law_dv_less B
  obtain ⟨fd__law_dv_ratio, g__law_dv_ratio⟩ := ok__law_dv_ratio B
  refine ⟨fd, ⟨fnF_of (k := 2) F sc__law_dv_widest fun cdv A outer s H E pa F0 kx => ?_, mg__law_dv_widest B, F.kp, bg_pos (F.bindsN fun _ _ _ _ _ _ us hl => match us, hl with | [_], _ => rfl)⟩⟩
  exact (xss_cons (xs_set 1 (xe_tup (xa_cons xe_int (xa_cons xe_int xa_nil))) kx.nd rfl (by first | exact .inl rfl | exact .inr rfl)) (xss_cons (xs_for kx (xi_seq rfl (xe_var 0 (pv 0))) (xg_tup rfl kx.calm (xgs_cons (xg_name 2 (pg_name kx.nd rfl (by first | exact .inl rfl | exact .inr rfl))) (xgs_cons (xg_name 3 (pg_name kx.nd rfl (by first | exact .inl rfl | exact .inr rfl))) (xgs_cons (xg_name 4 (pg_name kx.nd rfl (by first | exact .inl rfl | exact .inr rfl))) (xgs_cons (xg_name 5 (pg_name kx.nd rfl (by first | exact .inl rfl | exact .inr rfl))) xgs_nil))))) (xss_cons (xs_set 6 (xe_call g__law_dv_ratio.g kx (by omega) g__law_dv_ratio.bg rfl (xa_cons (xe_op op_sub (o_sub) (XE.p (xe_op op_mulG (o_mul) (XE.p (xe_ix rfl (xp_var 4 (pv 4)) (XE.p xe_int) (fun _ _ => rfl))) (XE.p (xe_ix rfl (xp_var 2 (pv 2)) (XE.p xe_int) (fun _ _ => rfl))))) (XE.p (xe_op op_mulG (o_mul) (XE.p (xe_ix rfl (xp_var 2 (pv 2)) (XE.p xe_int) (fun _ _ => rfl))) (XE.p (xe_ix rfl (xp_var 4 (pv 4)) (XE.p xe_int) (fun _ _ => rfl)))))) (xa_cons (xe_op op_mulG (o_mul) (XE.p (xe_ix rfl (xp_var 4 (pv 4)) (XE.p xe_int) (fun _ _ => rfl))) (XE.p (xe_ix rfl (xp_var 2 (pv 2)) (XE.p xe_int) (fun _ _ => rfl)))) xa_nil))) kx.nd rfl (by first | exact .inl rfl | exact .inr rfl)) (xss_one (xs_set 1 (xe_if (xt_tru rfl (XE.p (xe_call g__law_dv_less.g kx (by omega) g__law_dv_less.bg rfl (xa_cons (xe_var 1 (pv 1)) (xa_cons (xe_var 6 (pv 6)) xa_nil))))) (xe_var 6 (pv 6)) (xe_var 1 (pv 1))) kx.nd rfl (by first | exact .inl rfl | exact .inr rfl))))) (xss_one (xs_ret (xe_var 1 (pv 1))))))

/-! ### _law_dv_opening -/
abbrev N__law_dv_opening : List Str := ["_law_purse", "_law_base", "_law_top", "_law_near_one"]
abbrev P__law_dv_opening : List Str := ["_law_purse"]
def s__law_dv_opening : E Fl := (sSeq (sAsg (bO dAdd (ep (.int 1)) (eCall 2 2 0 m__law_dv_coin gL (aC (eVar 0) (aC (bO dIx (oP (eLst (aC (ep (.int 4)) (aC (ep (.int 12)) (aC (ep (.int 900)) (aC (bO dPow (ep (.int 10)) (ep (.int 12))) aN)))))) (eCall 2 2 0 m__law_dv_coin gL (aC (eVar 0) (aC (ep (.int 4)) aN)) aN)) aN)) aN)) (gN 1))
    (sSeq (sPar 2 3 (aC (bO dAdd (ep (.int 1)) (eCall 2 2 0 m__law_dv_coin gL (aC (eVar 0) (aC (eVar 1) aN)) aN)) (aC (eCall 2 2 0 m__law_dv_coin gL (aC (eVar 0) (aC (ep (.int 4)) aN)) aN) aN)))
    (sSeq (sIf (eAnd (eT (bO dEq (ePk 3) (ep (.int 0)))) (eT (bO dLt (ePk 1) (ep (.int 1000)))))
    (sPar 2 1 (aC (bO dSub (bO dMul (ePk 2) (ep (.int 911))) (ep (.int 1))) (aC (bO dMul (ePk 1) (ep (.int 911))) aN)))
    (ep .nx))
    (sRet (eCall 2 2 0 m__law_dv_ratio gL (aC (eVar 2) (aC (eVar 1) aN)) aN)))))
def m__law_dv_opening : List D → E0 D := dF 4 s__law_dv_opening
theorem me__law_dv_opening (a0 : D) (Q : D → Int → Prop) (X : Er → Int → Prop) (z : Int) : m__law_dv_opening [a0] Q X z = s__law_dv_opening [Sl.fr a0, Sl.no, Sl.no, Sl.no] (outF Q) (fun e _ z => X e z) z := rfl
theorem sc__law_dv_opening : FnScope N__law_dv_opening P__law_dv_opening (defScope (top 34)) := ⟨rfl, rfl, rfl, by decide +kernel, rfl, by decide +kernel, by decide +kernel⟩
theorem ok__law_dv_opening (B : Ctx P w K mg base) : ∃ fd, GFn P w K mg base "_law_dv_opening" 3 (He.fAd K ("_law_dv_opening", none)) fd P__law_dv_opening (spF K mg 1 m__law_dv_opening) := by
  obtain ⟨fd, F⟩ := B.2.2.1.def_ 28 (d := d34) rfl
  obtain ⟨fd__law_dv_ratio, g__law_dv_ratio⟩ := ok__law_dv_ratio B
  obtain ⟨fd__law_dv_coin, g__law_dv_coin⟩ := ok__law_dv_coin B
  refine ⟨fd, ⟨fnF_of (k := 2) F sc__law_dv_opening fun cdv A outer s H E pa F0 kx => ?_, mg__law_dv_opening B, F.kp, bg_pos (F.bindsN fun _ _ _ _ _ _ us hl => match us, hl with | [_], _ => rfl)⟩⟩
  exact (xss_cons (xs_set 1 (xe_op op_add4 (o_add) (XE.p xe_int) (XE.p (xe_call g__law_dv_coin.g kx (by omega) g__law_dv_coin.bg rfl (xa_cons (xe_var 0 (pv 0)) (xa_cons (xe_ix rfl (XO.p (xo_lst (xa_cons xe_int (xa_cons xe_int (xa_cons xe_int (xa_cons (xe_op op_powG (o_pow) (XE.p xe_int) (XE.p xe_int)) xa_nil)))))) (XE.p (xe_call g__law_dv_coin.g kx (by omega) g__law_dv_coin.bg rfl (xa_cons (xe_var 0 (pv 0)) (xa_cons xe_int xa_nil)))) (fun _ _ => rfl)) xa_nil))))) kx.nd rfl (by first | exact .inl rfl | exact .inr rfl)) (xss_cons (xs_par 2 3 kx.calm kx.nd rfl rfl (by decide) rfl rfl (xa_cons (xe_op op_add4 (o_add) (XE.p xe_int) (XE.p (xe_call g__law_dv_coin.g kx (by omega) g__law_dv_coin.bg rfl (xa_cons (xe_var 0 (pv 0)) (xa_cons (xe_var 1 (pv 1)) xa_nil))))) (xa_cons (xe_call g__law_dv_coin.g kx (by omega) g__law_dv_coin.bg rfl (xa_cons (xe_var 0 (pv 0)) (xa_cons xe_int xa_nil))) xa_nil)) rfl) (xss_cons (xs_if (XW.t (xw_and (xt_cmp (op_eq2 kx.hu) o_eq (xp_var 3 (pv 3)) (XE.p xe_int) rfl) (xw_and1 (xt_cmp op_lt2 o_lt (xp_var 1 (pv 1)) (XE.p xe_int) rfl)))) (xss_one (xs_par 2 1 kx.calm kx.nd rfl rfl (by decide) rfl rfl (xa_cons (xe_op op_sub (o_sub) (XE.p (xe_op op_mulG (o_mul) (xp_var 2 (pv 2)) (XE.p xe_int))) (XE.p xe_int)) (xa_cons (xe_op op_mulG (o_mul) (xp_var 1 (pv 1)) (XE.p xe_int)) xa_nil)) rfl)) xss_nil) (xss_one (xs_ret (xe_call g__law_dv_ratio.g kx (by omega) g__law_dv_ratio.bg rfl (xa_cons (xe_var 2 (pv 2)) (xa_cons (xe_var 1 (pv 1)) xa_nil))))))))

/-! ### _law_dv_stretch -/
abbrev N__law_dv_stretch : List Str := ["_law_purse", "_law_ends", "_law_way"]
abbrev P__law_dv_stretch : List Str := ["_law_purse"]
def s__law_dv_stretch : E Fl := (sSeq (sAsg (oP (eLst (aC (eCall 1 1 0 m__law_dv_opening gL (aC (eVar 0) aN) aN) (aC (eCall 1 1 0 m__law_dv_opening gL (aC (eVar 0) aN) aN) aN)))) (gN 1))
    (sSeq (sIf (tV (eCall 2 2 0 m__law_dv_less gL (aC (bO dIx (ePk 1) (ep (.int 1))) (aC (bO dIx (ePk 1) (ep (.int 0))) aN)) aN))
    (sAsg (oP (eb (ePk 1) fRevL)) (gN 1))
    (ep .nx))
    (sSeq (sAsg (eCall 2 2 0 m__law_dv_coin gL (aC (eVar 0) (aC (ep (.int 8)) aN)) aN) (gN 2))
    (sSeq (sIf (eOr (eT (bO dEq (ePk 2) (ep (.int 0)))) (eT (bO dEq (bO dIx (ePk 1) (ep (.int 0))) (bO dIx (ePk 1) (ep (.int 1))))))
    (sRet (eTup (aC (bO dIx (ePk 1) (ep (.int 0))) (aC (ep (.bl true)) (aC (bO dIx (ePk 1) (ep (.int 0))) (aC (ep (.bl true)) aN))))))
    (ep .nx))
    (sSeq (sIf (eT (bO dEq (ePk 2) (ep (.int 1))))
    (sRet (eTup (aC (eTup (aC (ep (.int 0)) (aC (ep (.int 1)) aN))) (aC (ep (.bl false)) (aC (bO dIx (ePk 1) (ep (.int 1))) (aC (bO dEq (eCall 2 2 0 m__law_dv_coin gL (aC (eVar 0) (aC (ep (.int 2)) aN)) aN) (ep (.int 0))) aN))))))
    (ep .nx))
    (sSeq (sIf (eAnd (eT (bO dEq (ePk 2) (ep (.int 2)))) (eT (bO dNe (bO dIx (ePk 1) (ep (.int 0))) (eTup (aC (ep (.int 1)) (aC (ep (.int 1)) aN))))))
    (sRet (eTup (aC (bO dIx (ePk 1) (ep (.int 0))) (aC (bO dEq (eCall 2 2 0 m__law_dv_coin gL (aC (eVar 0) (aC (ep (.int 2)) aN)) aN) (ep (.int 0))) (aC (eTup (aC (ep (.int 1)) (aC (ep (.int 1)) aN))) (aC (bO dEq (eCall 2 2 0 m__law_dv_coin gL (aC (eVar 0) (aC (ep (.int 2)) aN)) aN) (ep (.int 0))) aN))))))
    (ep .nx))
    (sRet (eTup (aC (bO dIx (ePk 1) (ep (.int 0))) (aC (bO dEq (eCall 2 2 0 m__law_dv_coin gL (aC (eVar 0) (aC (ep (.int 2)) aN)) aN) (ep (.int 0))) (aC (bO dIx (ePk 1) (ep (.int 1))) (aC (bO dEq (eCall 2 2 0 m__law_dv_coin gL (aC (eVar 0) (aC (ep (.int 2)) aN)) aN) (ep (.int 0))) aN))))))))))))
def m__law_dv_stretch : List D → E0 D := dF 3 s__law_dv_stretch
theorem me__law_dv_stretch (a0 : D) (Q : D → Int → Prop) (X : Er → Int → Prop) (z : Int) : m__law_dv_stretch [a0] Q X z = s__law_dv_stretch [Sl.fr a0, Sl.no, Sl.no] (outF Q) (fun e _ z => X e z) z := rfl
theorem sc__law_dv_stretch : FnScope N__law_dv_stretch P__law_dv_stretch (defScope (top 35)) := ⟨rfl, rfl, rfl, by decide +kernel, rfl, by decide +kernel, by decide +kernel⟩
theorem ok__law_dv_stretch (B : Ctx P w K mg base) : ∃ fd, GFn P w K mg base "_law_dv_stretch" 4 (He.fAd K ("_law_dv_stretch", none)) fd P__law_dv_stretch (spF K mg 1 m__law_dv_stretch) := by
  obtain ⟨fd, F⟩ := B.2.2.1.def_ 29 (d := d35) rfl
  obtain ⟨fd__law_dv_coin, g__law_dv_coin⟩ := ok__law_dv_coin B
  obtain ⟨fd__law_dv_less, g__law_dv_less⟩ := ok__law_dv_less B
  obtain ⟨fd__law_dv_opening, g__law_dv_opening⟩ := ok__law_dv_opening B
  refine ⟨fd, ⟨fnF_of (k := 3) F sc__law_dv_stretch fun cdv A outer s H E pa F0 kx => ?_, mg__law_dv_stretch B, F.kp, bg_pos (F.bindsN fun _ _ _ _ _ _ us hl => match us, hl with | [_], _ => rfl)⟩⟩
  exact (xss_cons (xs_set 1 (XO.fz (xo_lst (xa_cons (xe_call g__law_dv_opening.g kx (by omega) g__law_dv_opening.bg rfl (xa_cons (xe_var 0 (pv 0)) xa_nil)) (xa_cons (xe_call g__law_dv_opening.g kx (by omega) g__law_dv_opening.bg rfl (xa_cons (xe_var 0 (pv 0)) xa_nil)) xa_nil)))) kx.nd rfl (by first | exact .inl rfl | exact .inr rfl)) (xss_cons (xs_if (xt_tru rfl (XE.p (xe_call g__law_dv_less.g kx (by omega) g__law_dv_less.bg rfl (xa_cons (xe_ix rfl (xp_var 1 (pv 1)) (XE.p xe_int) (fun _ _ => rfl)) (xa_cons (xe_ix rfl (xp_var 1 (pv 1)) (XE.p xe_int) (fun _ _ => rfl)) xa_nil))))) (xss_one (xs_set 1 (XO.fz (xo_revL rfl (xp_var 1 (pv 1)))) kx.nd rfl (by first | exact .inl rfl | exact .inr rfl))) xss_nil) (xss_cons (xs_set 2 (xe_call g__law_dv_coin.g kx (by omega) g__law_dv_coin.bg rfl (xa_cons (xe_var 0 (pv 0)) (xa_cons xe_int xa_nil))) kx.nd rfl (by first | exact .inl rfl | exact .inr rfl)) (xss_cons (xs_if (XW.t (xw_or (xt_cmp (op_eq2 kx.hu) o_eq (xp_var 2 (pv 2)) (XE.p xe_int) rfl) (xw_or1 (xt_cmp (op_eq2 kx.hu) o_eq (XE.p (xe_ix rfl (xp_var 1 (pv 1)) (XE.p xe_int) (fun _ _ => rfl))) (XE.p (xe_ix rfl (xp_var 1 (pv 1)) (XE.p xe_int) (fun _ _ => rfl))) rfl)))) (xss_one (xs_ret (xe_tup (xa_cons (xe_ix rfl (xp_var 1 (pv 1)) (XE.p xe_int) (fun _ _ => rfl)) (xa_cons xe_bl (xa_cons (xe_ix rfl (xp_var 1 (pv 1)) (XE.p xe_int) (fun _ _ => rfl)) (xa_cons xe_bl xa_nil))))))) xss_nil) (xss_cons (xs_if (xt_cmp (op_eq2 kx.hu) o_eq (xp_var 2 (pv 2)) (XE.p xe_int) rfl) (xss_one (xs_ret (xe_tup (xa_cons (xe_tup (xa_cons xe_int (xa_cons xe_int xa_nil))) (xa_cons xe_bl (xa_cons (xe_ix rfl (xp_var 1 (pv 1)) (XE.p xe_int) (fun _ _ => rfl)) (xa_cons (xe_cmp (op_eq2 kx.hu) o_eq (XE.p (xe_call g__law_dv_coin.g kx (by omega) g__law_dv_coin.bg rfl (xa_cons (xe_var 0 (pv 0)) (xa_cons xe_int xa_nil)))) (XE.p xe_int) rfl) xa_nil))))))) xss_nil) (xss_cons (xs_if (XW.t (xw_and (xt_cmp (op_eq2 kx.hu) o_eq (xp_var 2 (pv 2)) (XE.p xe_int) rfl) (xw_and1 (xt_cmp (op_ne2 kx.hu) o_ne (XE.p (xe_ix rfl (xp_var 1 (pv 1)) (XE.p xe_int) (fun _ _ => rfl))) (XE.p (xe_tup (xa_cons xe_int (xa_cons xe_int xa_nil)))) rfl)))) (xss_one (xs_ret (xe_tup (xa_cons (xe_ix rfl (xp_var 1 (pv 1)) (XE.p xe_int) (fun _ _ => rfl)) (xa_cons (xe_cmp (op_eq2 kx.hu) o_eq (XE.p (xe_call g__law_dv_coin.g kx (by omega) g__law_dv_coin.bg rfl (xa_cons (xe_var 0 (pv 0)) (xa_cons xe_int xa_nil)))) (XE.p xe_int) rfl) (xa_cons (xe_tup (xa_cons xe_int (xa_cons xe_int xa_nil))) (xa_cons (xe_cmp (op_eq2 kx.hu) o_eq (XE.p (xe_call g__law_dv_coin.g kx (by omega) g__law_dv_coin.bg rfl (xa_cons (xe_var 0 (pv 0)) (xa_cons xe_int xa_nil)))) (XE.p xe_int) rfl) xa_nil))))))) xss_nil) (xss_one (xs_ret (xe_tup (xa_cons (xe_ix rfl (xp_var 1 (pv 1)) (XE.p xe_int) (fun _ _ => rfl)) (xa_cons (xe_cmp (op_eq2 kx.hu) o_eq (XE.p (xe_call g__law_dv_coin.g kx (by omega) g__law_dv_coin.bg rfl (xa_cons (xe_var 0 (pv 0)) (xa_cons xe_int xa_nil)))) (XE.p xe_int) rfl) (xa_cons (xe_ix rfl (xp_var 1 (pv 1)) (XE.p xe_int) (fun _ _ => rfl)) (xa_cons (xe_cmp (op_eq2 kx.hu) o_eq (XE.p (xe_call g__law_dv_coin.g kx (by omega) g__law_dv_coin.bg rfl (xa_cons (xe_var 0 (pv 0)) (xa_cons xe_int xa_nil)))) (XE.p xe_int) rfl) xa_nil)))))))))))))

/-! ### _law_dv_bad_stretch -/
abbrev N__law_dv_bad_stretch : List Str := ["_law_purse", "_law_menu", "_law_spot", "_law_next_one", "_law_pair"]
abbrev P__law_dv_bad_stretch : List Str := ["_law_purse"]
def s__law_dv_bad_stretch : E Fl := (sSeq (sPar 2 3 (aC (eCall 1 1 0 m__law_dv_opening gL (aC (eVar 0) aN) aN) (aC (eCall 1 1 0 m__law_dv_opening gL (aC (eVar 0) aN) aN) aN)))
    (sSeq (sAsgO (eLst (aC (eTup (aC (eTup (aC (ep (.int 0)) (aC (ep (.int 1)) aN))) (aC (ep (.bl true)) (aC (eVar 2) (aC (ep (.bl true)) aN))))) (aC (eTup (aC (eTup (aC (ep (.int 0)) (aC (ep (.int 1)) aN))) (aC (ep (.bl true)) (aC (eTup (aC (ep (.int 0)) (aC (ep (.int 1)) aN))) (aC (ep (.bl true)) aN))))) (aC (eTup (aC (eTup (aC (ep (.int 0)) (aC (ep (.int 1)) aN))) (aC (ep (.bl false)) (aC (eTup (aC (ep (.int 0)) (aC (ep (.int 1)) aN))) (aC (ep (.bl false)) aN))))) aN)))) 1)
    (sSeq (sAsgO (bC (ePk 1) (oP (eLst (aC (eTup (aC (eVar 2) (aC (ep (.bl false)) (aC (eVar 2) (aC (ep (.bl true)) aN))))) (aC (eTup (aC (eVar 2) (aC (ep (.bl true)) (aC (eVar 2) (aC (ep (.bl false)) aN))))) (aC (eTup (aC (eVar 2) (aC (ep (.bl false)) (aC (eVar 2) (aC (ep (.bl false)) aN))))) aN)))))) 1)
    (sSeq (sAsgO (bC (ePk 1) (oP (eLst (aC (eTup (aC (eVar 2) (aC (ep (.bl true)) (aC (eTup (aC (bO dAdd (bO dIx (ePk 2) (ep (.int 0))) (bO dIx (ePk 2) (ep (.int 1)))) (aC (bO dIx (ePk 2) (ep (.int 1))) aN))) (aC (ep (.bl true)) aN))))) (aC (eTup (aC (eTup (aC (ep (.int 2)) (aC (ep (.int 4)) aN))) (aC (ep (.bl true)) (aC (eTup (aC (ep (.int 1)) (aC (ep (.int 1)) aN))) (aC (ep (.bl true)) aN))))) aN))))) 1)
    (sSeq (sAsgO (bC (ePk 1) (oP (eLst (aC (eTup (aC (eTup (aC (ep (.int 0)) (aC (ep (.int 1)) aN))) (aC (ep (.bl false)) (aC (eTup (aC (ep (.int 2)) (aC (ep (.int 2)) aN))) (aC (ep (.bl true)) aN))))) (aC (eTup (aC (eTup (aC (ep (.int 0)) (aC (ep (.int 2)) aN))) (aC (ep (.bl false)) (aC (eTup (aC (ep (.int 1)) (aC (ep (.int 1)) aN))) (aC (ep (.bl true)) aN))))) (aC (eTup (aC (eTup (aC (bO dSub (ep (.int 0)) (ep (.int 1))) (aC (ep (.int 3)) aN))) (aC (ep (.bl false)) (aC (eVar 2) (aC (ep (.bl true)) aN))))) aN)))))) 1)
    (sSeq (sAsgO (bC (ePk 1) (oP (eLst (aC (eTup (aC (eVar 2) (aC (ep (.bl true)) (aC (eTup (aC (ep (.int 3)) (aC (ep (.int 0)) aN))) (aC (ep (.bl true)) aN))))) (aC (eTup (aC (eTup (aC (ep (.int 1)) (aC (bO dSub (ep (.int 0)) (ep (.int 2))) aN))) (aC (ep (.bl true)) (aC (eVar 2) (aC (ep (.bl true)) aN))))) (aC (eTup (aC (eTup (aC (ep (.int 0)) (aC (ep (.int 0)) aN))) (aC (ep (.bl false)) (aC (eVar 2) (aC (ep (.bl true)) aN))))) aN)))))) 1)
    (sSeq (sIf (eT (bO dNe (ePk 2) (ePk 3)))
    (sSeq (sAsg (oP (eIf (tV (eCall 2 2 0 m__law_dv_less gL (aC (eVar 3) (aC (eVar 2) aN)) aN)) (eLst (aC (eVar 2) (aC (eVar 3) aN))) (eLst (aC (eVar 3) (aC (eVar 2) aN))))) (gN 4))
    (sApp 1 (eTup (aC (bO dIx (ePk 4) (ep (.int 0))) (aC (ep (.bl true)) (aC (bO dIx (ePk 4) (ep (.int 1))) (aC (ep (.bl true)) aN)))))))
    (ep .nx))
    (sRet (bO dIx (ePk 1) (eCall 2 2 0 m__law_dv_coin gL (aC (eVar 0) (aC (uO dLen (ePk 1)) aN)) aN))))))))))
def m__law_dv_bad_stretch : List D → E0 D := dF 5 s__law_dv_bad_stretch
theorem me__law_dv_bad_stretch (a0 : D) (Q : D → Int → Prop) (X : Er → Int → Prop) (z : Int) : m__law_dv_bad_stretch [a0] Q X z = s__law_dv_bad_stretch [Sl.fr a0, Sl.no, Sl.no, Sl.no, Sl.no] (outF Q) (fun e _ z => X e z) z := rfl
theorem sc__law_dv_bad_stretch : FnScope N__law_dv_bad_stretch P__law_dv_bad_stretch (defScope (top 36)) := ⟨rfl, rfl, rfl, by decide +kernel, rfl, by decide +kernel, by decide +kernel⟩
theorem ok__law_dv_bad_stretch (B : Ctx P w K mg base) : ∃ fd, GFn P w K mg base "_law_dv_bad_stretch" 4 (He.fAd K ("_law_dv_bad_stretch", none)) fd P__law_dv_bad_stretch (spF K mg 1 m__law_dv_bad_stretch) := by
  obtain ⟨fd, F⟩ := B.2.2.1.def_ 30 (d := d36) rfl
  obtain ⟨fd__law_dv_coin, g__law_dv_coin⟩ := ok__law_dv_coin B
  obtain ⟨fd__law_dv_less, g__law_dv_less⟩ := ok__law_dv_less B
  obtain ⟨fd__law_dv_opening, g__law_dv_opening⟩ := ok__law_dv_opening B
  have mb_len := mbf_len B
  refine ⟨fd, ⟨fnF_of (k := 3) F sc__law_dv_bad_stretch fun cdv A outer s H E pa F0 kx => ?_, mg__law_dv_bad_stretch B, F.kp, bg_pos (F.bindsN fun _ _ _ _ _ _ us hl => match us, hl with | [_], _ => rfl)⟩⟩
  exact (xss_cons (xs_par 2 3 kx.calm kx.nd rfl rfl (by decide) rfl rfl (xa_cons (xe_call g__law_dv_opening.g kx (by omega) g__law_dv_opening.bg rfl (xa_cons (xe_var 0 (pv 0)) xa_nil)) (xa_cons (xe_call g__law_dv_opening.g kx (by omega) g__law_dv_opening.bg rfl (xa_cons (xe_var 0 (pv 0)) xa_nil)) xa_nil)) rfl) (xss_cons (xs_setO 1 (xo_lst (xa_cons (xe_tup (xa_cons (xe_tup (xa_cons xe_int (xa_cons xe_int xa_nil))) (xa_cons xe_bl (xa_cons (xe_var 2 (pv 2)) (xa_cons xe_bl xa_nil))))) (xa_cons (xe_tup (xa_cons (xe_tup (xa_cons xe_int (xa_cons xe_int xa_nil))) (xa_cons xe_bl (xa_cons (xe_tup (xa_cons xe_int (xa_cons xe_int xa_nil))) (xa_cons xe_bl xa_nil))))) (xa_cons (xe_tup (xa_cons (xe_tup (xa_cons xe_int (xa_cons xe_int xa_nil))) (xa_cons xe_bl (xa_cons (xe_tup (xa_cons xe_int (xa_cons xe_int xa_nil))) (xa_cons xe_bl xa_nil))))) xa_nil)))) kx.nd rfl (by first | exact .inl rfl | exact .inr rfl)) (xss_cons (xs_setO 1 (xo_op op_add4 o_cat (xp_var 1 (pv 1)) (XO.p (xo_lst (xa_cons (xe_tup (xa_cons (xe_var 2 (pv 2)) (xa_cons xe_bl (xa_cons (xe_var 2 (pv 2)) (xa_cons xe_bl xa_nil))))) (xa_cons (xe_tup (xa_cons (xe_var 2 (pv 2)) (xa_cons xe_bl (xa_cons (xe_var 2 (pv 2)) (xa_cons xe_bl xa_nil))))) (xa_cons (xe_tup (xa_cons (xe_var 2 (pv 2)) (xa_cons xe_bl (xa_cons (xe_var 2 (pv 2)) (xa_cons xe_bl xa_nil))))) xa_nil)))))) kx.nd rfl (by first | exact .inl rfl | exact .inr rfl)) (xss_cons (xs_setO 1 (xo_op op_add4 o_cat (xp_var 1 (pv 1)) (XO.p (xo_lst (xa_cons (xe_tup (xa_cons (xe_var 2 (pv 2)) (xa_cons xe_bl (xa_cons (xe_tup (xa_cons (xe_op op_add4 (o_add) (XE.p (xe_ix rfl (xp_var 2 (pv 2)) (XE.p xe_int) (fun _ _ => rfl))) (XE.p (xe_ix rfl (xp_var 2 (pv 2)) (XE.p xe_int) (fun _ _ => rfl)))) (xa_cons (xe_ix rfl (xp_var 2 (pv 2)) (XE.p xe_int) (fun _ _ => rfl)) xa_nil))) (xa_cons xe_bl xa_nil))))) (xa_cons (xe_tup (xa_cons (xe_tup (xa_cons xe_int (xa_cons xe_int xa_nil))) (xa_cons xe_bl (xa_cons (xe_tup (xa_cons xe_int (xa_cons xe_int xa_nil))) (xa_cons xe_bl xa_nil))))) xa_nil))))) kx.nd rfl (by first | exact .inl rfl | exact .inr rfl)) (xss_cons (xs_setO 1 (xo_op op_add4 o_cat (xp_var 1 (pv 1)) (XO.p (xo_lst (xa_cons (xe_tup (xa_cons (xe_tup (xa_cons xe_int (xa_cons xe_int xa_nil))) (xa_cons xe_bl (xa_cons (xe_tup (xa_cons xe_int (xa_cons xe_int xa_nil))) (xa_cons xe_bl xa_nil))))) (xa_cons (xe_tup (xa_cons (xe_tup (xa_cons xe_int (xa_cons xe_int xa_nil))) (xa_cons xe_bl (xa_cons (xe_tup (xa_cons xe_int (xa_cons xe_int xa_nil))) (xa_cons xe_bl xa_nil))))) (xa_cons (xe_tup (xa_cons (xe_tup (xa_cons (xe_op op_sub (o_sub) (XE.p xe_int) (XE.p xe_int)) (xa_cons xe_int xa_nil))) (xa_cons xe_bl (xa_cons (xe_var 2 (pv 2)) (xa_cons xe_bl xa_nil))))) xa_nil)))))) kx.nd rfl (by first | exact .inl rfl | exact .inr rfl)) (xss_cons (xs_setO 1 (xo_op op_add4 o_cat (xp_var 1 (pv 1)) (XO.p (xo_lst (xa_cons (xe_tup (xa_cons (xe_var 2 (pv 2)) (xa_cons xe_bl (xa_cons (xe_tup (xa_cons xe_int (xa_cons xe_int xa_nil))) (xa_cons xe_bl xa_nil))))) (xa_cons (xe_tup (xa_cons (xe_tup (xa_cons xe_int (xa_cons (xe_op op_sub (o_sub) (XE.p xe_int) (XE.p xe_int)) xa_nil))) (xa_cons xe_bl (xa_cons (xe_var 2 (pv 2)) (xa_cons xe_bl xa_nil))))) (xa_cons (xe_tup (xa_cons (xe_tup (xa_cons xe_int (xa_cons xe_int xa_nil))) (xa_cons xe_bl (xa_cons (xe_var 2 (pv 2)) (xa_cons xe_bl xa_nil))))) xa_nil)))))) kx.nd rfl (by first | exact .inl rfl | exact .inr rfl)) (xss_cons (xs_if (xt_cmp (op_ne2 kx.hu) o_ne (xp_var 2 (pv 2)) (xp_var 3 (pv 3)) rfl) (xss_cons (xs_set 4 (XO.fz (xo_if (xt_tru rfl (XE.p (xe_call g__law_dv_less.g kx (by omega) g__law_dv_less.bg rfl (xa_cons (xe_var 3 (pv 3)) (xa_cons (xe_var 2 (pv 2)) xa_nil))))) (xo_lst (xa_cons (xe_var 2 (pv 2)) (xa_cons (xe_var 3 (pv 3)) xa_nil))) (xo_lst (xa_cons (xe_var 3 (pv 3)) (xa_cons (xe_var 2 (pv 2)) xa_nil))))) kx.nd rfl (by first | exact .inl rfl | exact .inr rfl)) (xss_one (xs_app 1 kx (pv 1) (xe_tup (xa_cons (xe_ix rfl (xp_var 4 (pv 4)) (XE.p xe_int) (fun _ _ => rfl)) (xa_cons xe_bl (xa_cons (xe_ix rfl (xp_var 4 (pv 4)) (XE.p xe_int) (fun _ _ => rfl)) (xa_cons xe_bl xa_nil)))))))) xss_nil) (xss_one (xs_ret (xe_ix rfl (xp_var 1 (pv 1)) (XE.p (xe_call g__law_dv_coin.g kx (by omega) g__law_dv_coin.bg rfl (xa_cons (xe_var 0 (pv 0)) (xa_cons (xe_len rfl rfl mb_len (xp_var 1 (pv 1))) xa_nil)))) (fun _ _ => rfl)))))))))))

/-! ### _law_dv_width_caught -/
abbrev N__law_dv_width_caught : List Str := ["_law_passed", "_law_way", "_law_found", "e", "_law_odd"]
abbrev P__law_dv_width_caught : List Str := ["_law_passed", "_law_way"]
def s__law_dv_width_caught : E Fl := (sSeq (sAsg (oP (eLst aN)) (gN 2))
    (sSeq (sTry 3
    (sAsg (oP (eLst (aC (eIf (eT (bO dEq (ePk 1) (ep (.int 0)))) (eCall 1 1 0 m_widest gL (aC (eVar 0) aN) aN) (eCall 1 0 1 m_widest (gP [0]) aN (aC (eVar 0) aN))) aN))) (gN 2))
    ex_DividerError (fun ea ex nm => (sSeq (sAsg (eOrV (eIsX 3 ea ex nm is_InvalidFraction) (uO dNot (eIsX 3 ea ex nm is_ValueError))) (gN 4))
    (sAsg (oP (eLst (aC (ep (.str "raised")) (aC (eAndV (eIsX 3 ea ex nm is_InvalidRange) (uO dNot (ePk 4))) (aC (eExv 3 ea ex) aN))))) (gN 2)))))
    (sRet (eVar 2))))
def m__law_dv_width_caught : List D → E0 D := dF 5 s__law_dv_width_caught
theorem me__law_dv_width_caught (a0 a1 : D) (Q : D → Int → Prop) (X : Er → Int → Prop) (z : Int) : m__law_dv_width_caught [a0, a1] Q X z = s__law_dv_width_caught [Sl.fr a0, Sl.fr a1, Sl.no, Sl.no, Sl.no] (outF Q) (fun e _ z => X e z) z := rfl
theorem sc__law_dv_width_caught : FnScope N__law_dv_width_caught P__law_dv_width_caught (defScope (top 37)) := ⟨rfl, rfl, rfl, by decide +kernel, rfl, by decide +kernel, by decide +kernel⟩
theorem ok__law_dv_width_caught (B : Ctx P w K mg base) : ∃ fd, GFn P w K mg base "_law_dv_width_caught" 47 (He.fAd K ("_law_dv_width_caught", none)) fd P__law_dv_width_caught (spF K mg 2 m__law_dv_width_caught) := by
  obtain ⟨fd, F⟩ := B.2.2.1.def_ 31 (d := d37) rfl
  obtain ⟨fd_widest, g_widest, bk0_widest⟩ := ok_widest B
  have mb_ValueError := mbf_ValueError B
  have mb_isinstance := mbf_isinstance B
  have mb_ValueError := mbf_ValueError B
  refine ⟨fd, ⟨fnF_of (k := 46) F sc__law_dv_width_caught fun cdv A outer s H E pa F0 kx => ?_, mg__law_dv_width_caught B, F.kp, bg_pos (F.bindsN fun _ _ _ _ _ _ us hl => match us, hl with | [_, _], _ => rfl)⟩⟩
  exact (xss_cons (xs_set 2 (XO.fz (xo_lst xa_nil)) kx.nd rfl (by first | exact .inl rfl | exact .inr rfl)) (xss_cons (xs_try (i := 3) kx rfl rfl rfl rfl ⟨rfl, by decide, .inl (mg_DividerError B)⟩ (fun nm b A h1 h2 => exk_DividerError B h1 h2) (fun W pn xe kx => (xss_one (xs_set 2 (XO.fz (xo_lst (xa_cons (xe_if (xt_cmp (op_eq2 kx.hu) o_eq (xp_var 1 (pv 1)) (XE.p xe_int) rfl) (xe_call g_widest.g kx (by omega) g_widest.bg rfl (xa_cons (xe_var 0 (pv 0)) xa_nil)) (xe_callK0 g_widest.g kx (by omega) bk0_widest rfl (xk_cons (xe_var 0 (pv 0)) xk_nil))) xa_nil))) kx.nd rfl (by first | exact .inl rfl | exact .inr rfl)))) (fun ea oe A ex nm pn hg1 hz hv h1 => by
      obtain ⟨fX, ecX⟩ := ecA B hg1 (exn_DividerError h1)
      have nd := kx.nd
      exact (xss_cons (xs_set 4 (xe_or (xe_isX (cv := (.ref (He.ga K "InvalidFraction"))) rfl (ecX).xc hz hv 3 (fun b hb => isk_InvalidFraction B hg1 hb) (pv 3) (pe_glob (v := .ref (He.ga K "InvalidFraction")) rfl (mg_InvalidFraction B) rfl) (fun u h => h) rfl mb_isinstance) (xe_one (xe_not (XE.p (xe_isX (cv := (.type "ValueError")) rfl (ecX).xc hz hv 3 (fun b hb => isk_ValueError B hg1 hb) (pv 3) (pe_tyN rfl mb_ValueError rfl) (fun u h => h) rfl mb_isinstance))))) nd rfl (by first | exact .inl rfl | exact .inr rfl)) (xss_one (xs_set 2 (XO.fz (xo_lst (xa_cons xe_str (xa_cons (xe_and (xe_isX (cv := (.ref (He.ga K "InvalidRange"))) rfl (ecX).xc hz hv 3 (fun b hb => isk_InvalidRange B hg1 hb) (pv 3) (pe_glob (v := .ref (He.ga K "InvalidRange")) rfl (mg_InvalidRange B) rfl) (fun u h => h) rfl mb_isinstance) (xe_one (xe_not (xp_var 4 (pv 4))))) (xa_cons (xe_exv (C := _) rfl (ecX).xf (ecX).nov hz hv 3 (pv 3)) xa_nil))))) nd rfl (by first | exact .inl rfl | exact .inr rfl)))))) (xss_one (xs_ret (xe_var 2 (pv 2))))))

/-! ### _law_dv_width_right -/
abbrev N__law_dv_width_right : List Str := ["_law_purse", "_law_stretches", "_law_turn", "_law_due", "_law_bad_ones", "_law_passed", "_law_spot", "_law_low", "_law_low_in"]
abbrev P__law_dv_width_right : List Str := ["_law_purse"]
def p0__law_dv_width_right (ρ : Rho) (Q : Fl → Rho → Int → Prop) (X : Er → Rho → Int → Prop) (z : Int) : Prop := (sSeq (sAsgO (eb (ePk 1) fList) 5)
    (sIf (eOr (eT (bO dNe (eRoll (uO dRepr (eCall 2 2 0 m__law_dv_width_caught gL (aC (eVar 5) (aC (eVar 2) aN)) aN))) (uO dRepr (ePk 3)))) (eT (bO dNe (ePk 5) (ePk 1))))
    (sRet (ep (.bl false)))
    (ep .nx))) ρ Q X z
def p1__law_dv_width_right (ρ : Rho) (Q : Fl → Rho → Int → Prop) (X : Er → Rho → Int → Prop) (z : Int) : Prop := (sSeq (sApp 1 (eCall 1 1 0 m__law_dv_stretch gL (aC (eVar 0) aN) aN))
    (sIf (eAnd (eT (bO dEq (eCall 2 2 0 m__law_dv_coin gL (aC (eVar 0) (aC (ep (.int 3)) aN)) aN) (ep (.int 0)))) (eT (bO dNe (bO dIx (bO dIx (ePk 1) (uO dNeg (ep (.int 1)))) (ep (.int 2))) (eTup (aC (ep (.int 1)) (aC (ep (.int 1)) aN))))))
    (sSeq (sPar 7 8 (aC (bO dIx (bO dIx (ePk 1) (uO dNeg (ep (.int 1)))) (ep (.int 2))) (aC (bO dEq (eCall 2 2 0 m__law_dv_coin gL (aC (eVar 0) (aC (ep (.int 2)) aN)) aN) (ep (.int 0))) aN)))
    (sApp 1 (eTup (aC (eVar 7) (aC (eVar 8) (aC (eTup (aC (ep (.int 1)) (aC (ep (.int 1)) aN))) (aC (bO dEq (eCall 2 2 0 m__law_dv_coin gL (aC (eVar 0) (aC (ep (.int 2)) aN)) aN) (ep (.int 0))) aN)))))))
    (ep .nx))) ρ Q X z
def s__law_dv_width_right : E Fl := (sSeq (sAsgO (eLst aN) 1)
    (sSeq (sFor (eb (aC (eCall 2 2 0 m__law_dv_coin gL (aC (eVar 0) (aC (bO dIx (oP (eLst (aC (ep (.int 10)) (aC (ep (.int 10)) (aC (ep (.int 90)) aN))))) (eCall 2 2 0 m__law_dv_coin gL (aC (eVar 0) (aC (ep (.int 3)) aN)) aN)) aN)) aN) aN) fRng1) (gN 2) p1__law_dv_width_right)
    (sSeq (sAsg (oP (eLst (aC (eRoll (eCall 1 1 0 m__law_dv_widest gL (aC (eCall 1 1 0 m__law_dv_union gL (aC (eVar 1) aN) aN) aN) aN)) aN))) (gN 3))
    (sSeq (sFor (eb (aC (ep (.int 2)) aN) fRng1) (gN 2) p0__law_dv_width_right)
    (sSeq (sAsg (oP (eLst (aC (eCall 1 1 0 m__law_dv_bad_stretch gL (aC (eVar 0) aN) aN) (aC (eCall 1 1 0 m__law_dv_bad_stretch gL (aC (eVar 0) aN) aN) aN)))) (gN 4))
    (sSeq (sParFO 6 5 (eCall 2 2 0 m__law_dv_coin gL (aC (eVar 0) (aC (bO dAdd (uO dLen (ePk 1)) (ep (.int 1))) aN)) aN) (eb (ePk 1) fList))
    (sSeq (sIns 5 (aC (eVar 6) (aC (bO dIx (ePk 4) (ep (.int 0))) aN)))
    (sSeq (sIns 5 (aC (bO dAdd (bO dAdd (ePk 6) (ep (.int 1))) (eCall 2 2 0 m__law_dv_coin gL (aC (eVar 0) (aC (bO dSub (uO dLen (ePk 5)) (ePk 6)) aN)) aN)) (aC (bO dIx (ePk 4) (ep (.int 1))) aN)))
    (sSeq (sAsg (oP (eLst (aC (ep (.str "raised")) (aC (ep (.bl true)) (aC (bO dIx (ePk 4) (ep (.int 0))) aN))))) (gN 3))
    (sRet (bO dEq (eRoll (uO dRepr (eCall 2 2 0 m__law_dv_width_caught gL (aC (eVar 5) (aC (eCall 2 2 0 m__law_dv_coin gL (aC (eVar 0) (aC (ep (.int 2)) aN)) aN) aN)) aN))) (uO dRepr (ePk 3)))))))))))))
def m__law_dv_width_right : List D → E0 D := dF 9 s__law_dv_width_right
theorem me__law_dv_width_right (a0 : D) (Q : D → Int → Prop) (X : Er → Int → Prop) (z : Int) : m__law_dv_width_right [a0] Q X z = s__law_dv_width_right [Sl.fr a0, Sl.no, Sl.no, Sl.no, Sl.no, Sl.no, Sl.no, Sl.no, Sl.no] (outF Q) (fun e _ z => X e z) z := rfl
theorem sc__law_dv_width_right : FnScope N__law_dv_width_right P__law_dv_width_right (defScope (top 38)) := ⟨rfl, rfl, rfl, by decide +kernel, rfl, by decide +kernel, by decide +kernel⟩
theorem ok__law_dv_width_right (B : Ctx P w K mg base) : ∃ fd, GFn P w K mg base "_law_dv_width_right" 48 (He.fAd K ("_law_dv_width_right", none)) fd P__law_dv_width_right (spF K mg 1 m__law_dv_width_right) := by
  obtain ⟨fd, F⟩ := B.2.2.1.def_ 32 (d := d38) rfl
  obtain ⟨fd__law_dv_width_caught, g__law_dv_width_caught⟩ := ok__law_dv_width_caught B
  obtain ⟨fd__law_dv_coin, g__law_dv_coin⟩ := ok__law_dv_coin B
  obtain ⟨fd__law_dv_bad_stretch, g__law_dv_bad_stretch⟩ := ok__law_dv_bad_stretch B
  obtain ⟨fd__law_dv_widest, g__law_dv_widest⟩ := ok__law_dv_widest B
  obtain ⟨fd__law_dv_union, g__law_dv_union⟩ := ok__law_dv_union B
  obtain ⟨fd__law_dv_stretch, g__law_dv_stretch⟩ := ok__law_dv_stretch B
  have mb_len := mbf_len B
  have mb_list := mbf_list B
  have mb_range := mbf_range B
  have mb_repr := mbf_repr B
  refine ⟨fd, ⟨fnF_of (k := 47) F sc__law_dv_width_right fun cdv A outer s H E pa F0 kx => ?_, mg__law_dv_width_right B, F.kp, bg_pos (F.bindsN fun _ _ _ _ _ _ us hl => match us, hl with | [_], _ => rfl)⟩⟩
  exact (xss_cons (xs_setO 1 (xo_lst xa_nil) kx.nd rfl (by first | exact .inl rfl | exact .inr rfl)) (xss_cons (xs_for kx (xi_range1 (xa_cons (xe_call g__law_dv_coin.g kx (by omega) g__law_dv_coin.bg rfl (xa_cons (xe_var 0 (pv 0)) (xa_cons (xe_ix rfl (XO.p (xo_lst (xa_cons xe_int (xa_cons xe_int (xa_cons xe_int xa_nil))))) (XE.p (xe_call g__law_dv_coin.g kx (by omega) g__law_dv_coin.bg rfl (xa_cons (xe_var 0 (pv 0)) (xa_cons xe_int xa_nil)))) (fun _ _ => rfl)) xa_nil))) xa_nil) rfl mb_range) (xg_name 2 (pg_name kx.nd rfl (by first | exact .inl rfl | exact .inr rfl))) (xss_cons (xs_app 1 kx (pv 1) (xe_call g__law_dv_stretch.g kx (by omega) g__law_dv_stretch.bg rfl (xa_cons (xe_var 0 (pv 0)) xa_nil))) (xss_one (xs_if (XW.t (xw_and (xt_cmp (op_eq2 kx.hu) o_eq (XE.p (xe_call g__law_dv_coin.g kx (by omega) g__law_dv_coin.bg rfl (xa_cons (xe_var 0 (pv 0)) (xa_cons xe_int xa_nil)))) (XE.p xe_int) rfl) (xw_and1 (xt_cmp (op_ne2 kx.hu) o_ne (XE.p (xe_ix rfl (XE.p (xe_ix rfl (xp_var 1 (pv 1)) (XE.p (xe_neg (XE.p xe_int))) (fun _ _ => rfl))) (XE.p xe_int) (fun _ _ => rfl))) (XE.p (xe_tup (xa_cons xe_int (xa_cons xe_int xa_nil)))) rfl)))) (xss_cons (xs_par 7 8 kx.calm kx.nd rfl rfl (by decide) rfl rfl (xa_cons (xe_ix rfl (XE.p (xe_ix rfl (xp_var 1 (pv 1)) (XE.p (xe_neg (XE.p xe_int))) (fun _ _ => rfl))) (XE.p xe_int) (fun _ _ => rfl)) (xa_cons (xe_cmp (op_eq2 kx.hu) o_eq (XE.p (xe_call g__law_dv_coin.g kx (by omega) g__law_dv_coin.bg rfl (xa_cons (xe_var 0 (pv 0)) (xa_cons xe_int xa_nil)))) (XE.p xe_int) rfl) xa_nil)) rfl) (xss_one (xs_app 1 kx (pv 1) (xe_tup (xa_cons (xe_var 7 (pv 7)) (xa_cons (xe_var 8 (pv 8)) (xa_cons (xe_tup (xa_cons xe_int (xa_cons xe_int xa_nil))) (xa_cons (xe_cmp (op_eq2 kx.hu) o_eq (XE.p (xe_call g__law_dv_coin.g kx (by omega) g__law_dv_coin.bg rfl (xa_cons (xe_var 0 (pv 0)) (xa_cons xe_int xa_nil)))) (XE.p xe_int) rfl) xa_nil)))))))) xss_nil)))) (xss_cons (xs_set 3 (XO.fz (xo_lst (xa_cons (xe_roll (xe_call g__law_dv_widest.g kx (by omega) g__law_dv_widest.bg rfl (xa_cons (xe_call g__law_dv_union.g kx (by omega) g__law_dv_union.bg rfl (xa_cons (xe_var 1 (pv 1)) xa_nil)) xa_nil))) xa_nil))) kx.nd rfl (by first | exact .inl rfl | exact .inr rfl)) (xss_cons (xs_for kx (xi_range1 (xa_cons xe_int xa_nil) rfl mb_range) (xg_name 2 (pg_name kx.nd rfl (by first | exact .inl rfl | exact .inr rfl))) (xss_cons (xs_setO 5 (xo_list kx rfl mb_list (xp_var 1 (pv 1))) kx.nd rfl (by first | exact .inl rfl | exact .inr rfl)) (xss_one (xs_if (XW.t (xw_or (xt_cmp (op_ne2 kx.hu) o_ne (XE.p (xe_roll (xe_repr kx rfl mb_repr (XE.p (xe_call g__law_dv_width_caught.g kx (by omega) g__law_dv_width_caught.bg rfl (xa_cons (xe_var 5 (pv 5)) (xa_cons (xe_var 2 (pv 2)) xa_nil))))))) (XE.p (xe_repr kx rfl mb_repr (xp_var 3 (pv 3)))) rfl) (xw_or1 (xt_cmp (op_ne2 kx.hu) o_ne (xp_var 5 (pv 5)) (xp_var 1 (pv 1)) rfl)))) (xss_one (xs_ret xe_bl)) xss_nil)))) (xss_cons (xs_set 4 (XO.fz (xo_lst (xa_cons (xe_call g__law_dv_bad_stretch.g kx (by omega) g__law_dv_bad_stretch.bg rfl (xa_cons (xe_var 0 (pv 0)) xa_nil)) (xa_cons (xe_call g__law_dv_bad_stretch.g kx (by omega) g__law_dv_bad_stretch.bg rfl (xa_cons (xe_var 0 (pv 0)) xa_nil)) xa_nil)))) kx.nd rfl (by first | exact .inl rfl | exact .inr rfl)) (xss_cons (xs_parFO 6 5 kx rfl rfl (by decide) rfl rfl (xe_call g__law_dv_coin.g kx (by omega) g__law_dv_coin.bg rfl (xa_cons (xe_var 0 (pv 0)) (xa_cons (xe_op op_add4 (o_add) (XE.p (xe_len rfl rfl mb_len (xp_var 1 (pv 1)))) (XE.p xe_int)) xa_nil))) (xo_list kx rfl mb_list (xp_var 1 (pv 1))) rfl) (xss_cons (xs_ins 5 (pv 5) (xa_cons (xe_var 6 (pv 6)) (xa_cons (xe_ix rfl (xp_var 4 (pv 4)) (XE.p xe_int) (fun _ _ => rfl)) xa_nil))) (xss_cons (xs_ins 5 (pv 5) (xa_cons (xe_op op_add4 (o_add) (XE.p (xe_op op_add4 (o_add) (xp_var 6 (pv 6)) (XE.p xe_int))) (XE.p (xe_call g__law_dv_coin.g kx (by omega) g__law_dv_coin.bg rfl (xa_cons (xe_var 0 (pv 0)) (xa_cons (xe_op op_sub (o_sub) (XE.p (xe_len rfl rfl mb_len (xp_var 5 (pv 5)))) (xp_var 6 (pv 6))) xa_nil))))) (xa_cons (xe_ix rfl (xp_var 4 (pv 4)) (XE.p xe_int) (fun _ _ => rfl)) xa_nil))) (xss_cons (xs_set 3 (XO.fz (xo_lst (xa_cons xe_str (xa_cons xe_bl (xa_cons (xe_ix rfl (xp_var 4 (pv 4)) (XE.p xe_int) (fun _ _ => rfl)) xa_nil))))) kx.nd rfl (by first | exact .inl rfl | exact .inr rfl)) (xss_one (xs_ret (xe_cmp (op_eq2 kx.hu) o_eq (XE.p (xe_roll (xe_repr kx rfl mb_repr (XE.p (xe_call g__law_dv_width_caught.g kx (by omega) g__law_dv_width_caught.bg rfl (xa_cons (xe_var 5 (pv 5)) (xa_cons (xe_call g__law_dv_coin.g kx (by omega) g__law_dv_coin.bg rfl (xa_cons (xe_var 0 (pv 0)) (xa_cons xe_int xa_nil))) xa_nil))))))) (XE.p (xe_repr kx rfl mb_repr (xp_var 3 (pv 3)))) rfl))))))))))))

/-! ### law -/
abbrev N_law : List Str := ["_law_script", "_law_rank", "_law_purse", "_law_turn"]
abbrev P_law : List Str := ["_law_script"]
def p0_law (ρ : Rho) (Q : Fl → Rho → Int → Prop) (X : Er → Rho → Int → Prop) (z : Int) : Prop := (sIf (tN (tV (eCall 1 1 0 m__law_dv_width_right gL (aC (eVar 2) aN) aN)))
    (sRet (ep (.bl false)))
    (ep .nx)) ρ Q X z
def p1_law (ρ : Rho) (Q : Fl → Rho → Int → Prop) (X : Er → Rho → Int → Prop) (z : Int) : Prop := (eb (eCall 2 2 0 m__law_dv_purse gL (aC (eVar 0) (aC (eVar 1) aN)) aN) (fPurse 2 (sFor (eb (aC (ep (.int 2)) aN) fRng1) (gN 3) p0_law))) ρ Q X z
def s_law : E Fl := (sSeq (sFor (eb (aC (bO dMax (ep (.int 1)) (bO dMin (ep (.int 5)) (uO dLen (ePk 0)))) aN) fRng1) (gN 1) p1_law)
    (sRet (ep (.bl true))))
def m_law : List D → E0 D := dF 4 s_law
theorem me_law (a0 : D) (Q : D → Int → Prop) (X : Er → Int → Prop) (z : Int) : m_law [a0] Q X z = s_law [Sl.fr a0, Sl.no, Sl.no, Sl.no] (outF Q) (fun e _ z => X e z) z := rfl
theorem sc_law : FnScope N_law P_law (defScope (top 39)) := ⟨rfl, rfl, rfl, by decide +kernel, rfl, by decide +kernel, by decide +kernel⟩
theorem ok_law (B : Ctx P w K mg base) {fd : FuncData} (F : FunD K "law" "law" (defArgs (top 39)) (defBody (top 39)) (defScope (top 39)) [] [] (He.fAd K ("law", none)) fd) : FnG P w K mg base 49 (He.fAd K ("law", none)) fd P_law (spL K mg 1 m_law) := by
  obtain ⟨fd__law_dv_purse, g__law_dv_purse⟩ := ok__law_dv_purse B
  obtain ⟨fd__law_dv_width_right, g__law_dv_width_right⟩ := ok__law_dv_width_right B
  have mb_len := mbf_len B
  have mb_max := mbf_max B
  have mb_min := mbf_min B
  have mb_range := mbf_range B
  refine fnL_of (k := 48) F sc_law fun cdv A outer s H E F0 kx => ?_
  exact (xss_cons (xs_for kx (xi_range1 (xa_cons (xe_max2 kx rfl mb_max (XE.p xe_int) (XE.p (xe_min2 kx rfl mb_min (XE.p xe_int) (XE.p (xe_len rfl rfl mb_len (xp_var 0 (pv 0))))))) xa_nil) rfl mb_range) (xg_name 1 (pg_name kx.nd rfl (by first | exact .inl rfl | exact .inr rfl))) (xss_purse 2 rfl (xo_call g__law_dv_purse.g kx (by omega) g__law_dv_purse.bg rfl (xa_cons (xe_var 0 (pv 0)) (xa_cons (xe_var 1 (pv 1)) xa_nil))) kx.nd rfl (by first | exact .inl rfl | exact .inr rfl) (fun q => have kx := kx_wP (q := q) kx; (xss_one (xs_for kx (xi_range1 (xa_cons xe_int xa_nil) rfl mb_range) (xg_name 3 (pg_name kx.nd rfl (by first | exact .inl rfl | exact .inr rfl))) (xss_one (xs_if (xt_not (xt_tru rfl (XE.p (xe_call g__law_dv_width_right.g kx (by omega) g__law_dv_width_right.bg rfl (xa_cons (xe_var 2 (pv 2)) xa_nil))))) (xss_one (xs_ret xe_bl)) xss_nil))))))) (xss_one (xs_ret xe_bl)))
end
end LW

namespace LW
open PySem PySem.Spec PyProof.Rows L2 DL
/-! the simplest fraction of an interval: plain numbers. The high end c/d; d = 0 (c = 1): none -/
structure Iv where
  a : Int
  b : Int
  li : Bool
  c : Int
  d : Int
  hi : Bool
def Iv.inn (I : Iv) (x y : Int) : Prop := (I.a * y < x * I.b ∨ (I.a * y = x * I.b ∧ I.li = true)) ∧ (x * I.d < I.c * y ∨ (x * I.d = I.c * y ∧ I.hi = true))
structure Iv.Ok (I : Iv) : Prop where
  a0 : 0 ≤ I.a
  b1 : 1 ≤ I.b
  c0 : 0 ≤ I.c
  d0 : 0 ≤ I.d
  inf : I.d = 0 → I.c = 1
  ne : I.a * I.d < I.c * I.b ∨ (I.a * I.d = I.c * I.b ∧ I.li = true ∧ I.hi = true)
  pos : 0 < I.a ∨ I.li = false
def Iv.w (I : Iv) : Int := I.a / I.b
def Iv.rest (I : Iv) : Int := I.a - I.w * I.b
def Iv.least (I : Iv) : Int := if I.li = true ∧ I.a = I.w * I.b then I.w else I.w + 1
def Iv.base (I : Iv) : Prop := 0 < I.c - I.least * I.d ∨ (I.c - I.least * I.d = 0 ∧ I.hi = true)
def Iv.nxt (I : Iv) : Iv := ⟨I.d, I.c - I.w * I.d, I.hi, if I.rest = 0 then 1 else I.b, I.rest, I.li⟩
structure Iv.Good (I : Iv) (p q : Int) : Prop where
  p1 : 1 ≤ p
  q1 : 1 ≤ q
  inn : I.inn p q
  g : Int.gcd p q = 1
  least : ∀ x y, 1 ≤ y → I.inn x y → p ≤ x ∧ q ≤ y
theorem w_spec (I : Iv) (h : I.Ok) : 0 ≤ I.w ∧ 0 ≤ I.rest ∧ I.rest < I.b ∧ I.a = I.w * I.b + I.rest := by
  have hb := h.b1
  have h1 := Int.emod_nonneg I.a (show I.b ≠ 0 by omega)
  have h2 := Int.emod_lt_of_pos I.a (show 0 < I.b by omega)
  have h3 := Int.mul_ediv_add_emod I.a I.b
  have h4 : 0 ≤ I.a / I.b := Int.ediv_nonneg h.a0 (by omega)
  unfold Iv.rest Iv.w
  rw [Int.mul_comm] at h3
  omega
theorem le_mul {a y : Int} (ha : 0 ≤ a) (hy : 1 ≤ y) : a ≤ a * y := by
  have := Int.mul_le_mul_of_nonneg_left hy ha
  omega
theorem lt_of_mul {x y b : Int} (hb : 0 < b) (h : x * b < y * b) : x < y := Int.lt_of_mul_lt_mul_right h (by omega)
theorem low_least (I : Iv) (h : I.Ok) (x y : Int) (hy : 1 ≤ y) (hx : I.a * y < x * I.b ∨ (I.a * y = x * I.b ∧ I.li = true)) : I.least ≤ x := by
  obtain ⟨w0, r0, r1, e⟩ := w_spec I h
  have hb := h.b1
  have k := le_mul h.a0 hy
  unfold Iv.least
  rcases hx with hx | ⟨hx, hl⟩
  · have : I.w < x := lt_of_mul (b := I.b) (by omega) (by omega)
    split <;> omega
  · by_cases hr : I.rest = 0
    · rw [if_pos ⟨hl, by omega⟩]
      have : I.w - 1 < x := lt_of_mul (b := I.b) (by omega) (by have : (I.w - 1) * I.b = I.w * I.b - I.b := by grind
                                                                omega)
      omega
    · rw [if_neg (fun z => by have := z.2; omega)]
      have : I.w < x := lt_of_mul (b := I.b) (by omega) (by omega)
      omega
theorem base_good (I : Iv) (h : I.Ok) (hb : I.base) : I.Good I.least 1 := by
  obtain ⟨w0, r0, r1, e⟩ := w_spec I h
  have b1 := h.b1
  refine ⟨?_, Int.le_refl 1, ⟨?_, ?_⟩, by simp, fun x y hy hx => ⟨low_least I h x y hy hx.1, hy⟩⟩
  · unfold Iv.least
    split
    · rename_i hl
      rcases h.pos with hp | hp
      · have : 0 < I.w := by
          apply lt_of_mul (b := I.b) (by omega)
          omega
        omega
      · rw [hp] at hl
        cases hl.1
    · omega
  · unfold Iv.least
    split
    · rename_i hl
      exact .inr ⟨by omega, hl.1⟩
    · refine .inl ?_
      have : (I.w + 1) * I.b = I.w * I.b + I.b := by grind
      omega
  · rcases hb with hb | ⟨hb, hh⟩
    · exact .inl (by omega)
    · exact .inr ⟨by omega, hh⟩
theorem nbase (I : Iv) (hb : ¬ I.base) : I.c - I.least * I.d ≤ 0 ∧ (I.c - I.least * I.d = 0 → I.hi = false) := by
  unfold Iv.base at hb
  refine ⟨by omega, fun e => ?_⟩
  cases hh : I.hi with
  | false => rfl
  | true => exact absurd (Or.inr ⟨e, hh⟩) hb
/-- without an integer within, the next interval is one -/
theorem nxt_ok (I : Iv) (h : I.Ok) (hb : ¬ I.base) : I.nxt.Ok ∧ 0 < I.d ∧ 1 ≤ I.nxt.b ∧ I.nxt.b ≤ I.d ∧ (I.li = true → I.rest ≠ 0) := by
  obtain ⟨w0, r0, r1, e⟩ := w_spec I h
  have b1 := h.b1
  obtain ⟨n1, n2⟩ := nbase I hb
  have d0 := h.d0
  have dp : 0 < I.d := by
    rcases Int.lt_or_eq_of_le d0 with q | q
    · exact q
    · have := h.inf q.symm
      rw [← q, this] at n1
      omega
  have hl : I.least ≤ I.w + 1 := by unfold Iv.least; split <;> omega
  have hld : I.least * I.d ≤ (I.w + 1) * I.d := Int.mul_le_mul_of_nonneg_right hl d0
  have e2 : (I.w + 1) * I.d = I.w * I.d + I.d := by grind
  -- c > w d
  have hc : I.w * I.d < I.c := by
    have k1 : (I.w * I.d) * I.b + I.rest * I.d = I.a * I.d := by
      have := e
      grind
    have k2 : 0 ≤ I.rest * I.d := Int.mul_nonneg r0 d0
    rcases h.ne with q | ⟨q, q1, q2⟩
    · exact lt_of_mul (b := I.b) (by omega) (by omega)
    · by_cases hr : I.rest = 0
      · exfalso
        have el : I.least = I.w := by unfold Iv.least; rw [if_pos ⟨q1, by omega⟩]
        rw [el] at n1 n2
        have : I.c - I.w * I.d = 0 := by
          have k3 : I.c * I.b = (I.w * I.d) * I.b := by rw [hr] at k1; omega
          have := Int.eq_of_mul_eq_mul_right (show I.b ≠ 0 by omega) k3
          omega
        rw [n2 this] at q2
        cases q2
      · have : 0 < I.rest * I.d := Int.mul_pos (by omega) dp
        exact lt_of_mul (b := I.b) (by omega) (by omega)
  have lr : I.li = true → I.rest ≠ 0 := fun q hr => by
    have el : I.least = I.w := by unfold Iv.least; rw [if_pos ⟨q, by omega⟩]
    rw [el] at n1
    omega
  refine ⟨⟨d0, by show 1 ≤ I.c - I.w * I.d; omega, by show 0 ≤ (if I.rest = 0 then 1 else I.b); split <;> omega, r0, fun q => by show (if I.rest = 0 then 1 else I.b) = 1; exact if_pos q, ?_, .inl dp⟩, dp, by show 1 ≤ I.c - I.w * I.d; omega, by show I.c - I.w * I.d ≤ I.d; omega, lr⟩
  show I.d * I.rest < (if I.rest = 0 then 1 else I.b) * (I.c - I.w * I.d) ∨ (I.d * I.rest = (if I.rest = 0 then 1 else I.b) * (I.c - I.w * I.d) ∧ I.hi = true ∧ I.li = true)
  by_cases hr : I.rest = 0
  · rw [if_pos hr, hr]
    left
    omega
  · rw [if_neg hr]
    have k1 : I.d * I.rest = I.a * I.d - I.w * I.b * I.d := by have := e; grind
    have k2 : I.b * (I.c - I.w * I.d) = I.c * I.b - I.w * I.b * I.d := by grind
    rcases h.ne with q | ⟨q, q1, q2⟩
    · left; omega
    · right; exact ⟨by omega, q2, q1⟩
theorem nxt_inn (I : Iv) (h : I.Ok) (hb : ¬ I.base) (x y : Int) (hy : 1 ≤ y) : I.inn x y → 1 ≤ x - I.w * y ∧ I.nxt.inn y (x - I.w * y) := by
  obtain ⟨w0, r0, r1, e⟩ := w_spec I h
  obtain ⟨_, dp, _, _, lr⟩ := nxt_ok I h hb
  have b1 := h.b1
  intro ⟨h1, h2⟩
  have k1 : y * I.rest = I.a * y - I.w * y * I.b := by have := e; grind
  have k2 : (x - I.w * y) * I.b = x * I.b - I.w * y * I.b := by grind
  have k3 : I.d * (x - I.w * y) = x * I.d - I.w * I.d * y := by grind
  have k4 : y * (I.c - I.w * I.d) = I.c * y - I.w * I.d * y := by grind
  have k5 : 0 ≤ y * I.rest := Int.mul_nonneg (by omega) r0
  have x1 : 0 < x - I.w * y := by
    apply lt_of_mul (b := I.b) (by omega)
    rcases h1 with q | ⟨q, hl⟩
    · omega
    · have : 0 < y * I.rest := Int.mul_pos (by omega) (by have := lr hl; omega)
      omega
  refine ⟨by omega, ?_, ?_⟩
  · show I.d * (x - I.w * y) < y * (I.c - I.w * I.d) ∨ (I.d * (x - I.w * y) = y * (I.c - I.w * I.d) ∧ I.hi = true)
    rcases h2 with q | ⟨q, hl⟩
    · left; omega
    · right; exact ⟨by omega, hl⟩
  · show y * I.rest < (if I.rest = 0 then 1 else I.b) * (x - I.w * y) ∨ (y * I.rest = (if I.rest = 0 then 1 else I.b) * (x - I.w * y) ∧ I.li = true)
    by_cases hr : I.rest = 0
    · rw [if_pos hr, hr]
      left; omega
    · rw [if_neg hr, Int.mul_comm I.b]
      rcases h1 with q | ⟨q, hl⟩
      · left; omega
      · right; exact ⟨by omega, hl⟩
theorem nxt_back (I : Iv) (h : I.Ok) (hb : ¬ I.base) (p q : Int) (hp : 1 ≤ p) (hq : 1 ≤ q) : I.nxt.inn p q → I.inn (I.w * p + q) p := by
  obtain ⟨w0, r0, r1, e⟩ := w_spec I h
  obtain ⟨_, dp, _, _, lr⟩ := nxt_ok I h hb
  have b1 := h.b1
  intro ⟨h1, h2⟩
  have h1' : I.d * q < p * (I.c - I.w * I.d) ∨ (I.d * q = p * (I.c - I.w * I.d) ∧ I.hi = true) := h1
  have h2' : p * I.rest < (if I.rest = 0 then 1 else I.b) * q ∨ (p * I.rest = (if I.rest = 0 then 1 else I.b) * q ∧ I.li = true) := h2
  have k1 : p * I.rest = I.a * p - I.w * p * I.b := by have := e; grind
  have k2 : (I.w * p + q) * I.b = I.w * p * I.b + I.b * q := by grind
  have k3 : (I.w * p + q) * I.d = I.w * I.d * p + I.d * q := by grind
  have k4 : p * (I.c - I.w * I.d) = I.c * p - I.w * I.d * p := by grind
  refine ⟨?_, ?_⟩
  · by_cases hr : I.rest = 0
    · left
      have : 0 < I.b * q := Int.mul_pos (by omega) (by omega)
      rw [hr] at k1
      omega
    · rw [if_neg hr] at h2'
      rcases h2' with z | ⟨z, hl⟩
      · left; omega
      · right; exact ⟨by omega, hl⟩
  · rcases h1' with z | ⟨z, hl⟩
    · left; omega
    · right; exact ⟨by omega, hl⟩
theorem nxt_good (I : Iv) (h : I.Ok) (hb : ¬ I.base) (p q : Int) (g : I.nxt.Good p q) : I.Good (I.w * p + q) p := by
  obtain ⟨w0, r0, r1, e⟩ := w_spec I h
  have hwp : 0 ≤ I.w * p := Int.mul_nonneg w0 (by have := g.p1; omega)
  have p1 := g.p1
  have q1 := g.q1
  refine ⟨by omega, g.p1, nxt_back I h hb p q g.p1 g.q1 g.inn, ?_, fun x y hy hx => ?_⟩
  · rw [Int.gcd_comm, ← g.g]
    rw [Int.add_comm]
    simp
  · obtain ⟨x1, hx2⟩ := nxt_inn I h hb x y hy hx
    obtain ⟨l1, l2⟩ := g.least y (x - I.w * y) x1 hx2
    have : I.w * p ≤ I.w * y := Int.mul_le_mul_of_nonneg_left l1 w0
    exact ⟨by omega, l1⟩
/-- how much is left to go -/
def Iv.sz (I : Iv) : Int := I.b + I.d
theorem nxt_sz (I : Iv) (h : I.Ok) (hb : ¬ I.base) : I.nxt.sz < I.sz ∧ 0 < I.nxt.sz := by
  obtain ⟨w0, r0, r1, e⟩ := w_spec I h
  obtain ⟨_, dp, n1, n2, lr⟩ := nxt_ok I h hb
  have : I.nxt.d = I.rest := rfl
  unfold Iv.sz
  omega
theorem nxt2_sz (I : Iv) (h : I.Ok) (hb : ¬ I.base) (hb2 : ¬ I.nxt.base) : 2 * I.nxt.nxt.sz ≤ I.sz := by
  obtain ⟨w0, r0, r1, e⟩ := w_spec I h
  obtain ⟨k, dp, n1, n2, lr⟩ := nxt_ok I h hb
  obtain ⟨w1, r2, r3, e2⟩ := w_spec I.nxt k
  obtain ⟨k', dp', n1', n2', lr'⟩ := nxt_ok I.nxt k hb2
  have s1 := nxt_sz I.nxt k hb2
  have hd : I.nxt.d = I.rest := rfl
  have hr : I.rest ≠ 0 := by omega
  have hc : I.nxt.c = I.b := if_neg hr
  have hbn : I.nxt.b = I.c - I.w * I.d := rfl
  have ha : I.nxt.a = I.d := rfl
  have wp : 1 ≤ I.nxt.w := by
    have : 0 < I.nxt.w := by
      apply lt_of_mul (b := I.nxt.b) (by omega)
      omega
    omega
  -- the next but one: b - w' rest, d - w' b1
  have e3 : I.nxt.nxt.b = I.b - I.nxt.w * I.rest := by
    show I.nxt.c - I.nxt.w * I.nxt.d = _
    rw [hc, hd]
  have e4 : I.nxt.nxt.d = I.d - I.nxt.w * I.nxt.b := by
    show I.nxt.rest = _
    unfold Iv.rest
    rw [ha]
  have m1 : I.rest ≤ I.nxt.w * I.rest := by rw [Int.mul_comm]; exact le_mul r0 wp
  have m2 : I.nxt.b ≤ I.nxt.w * I.nxt.b := by rw [Int.mul_comm]; exact le_mul (by omega) wp
  unfold Iv.sz at s1 ⊢
  omega
end LW

namespace LW
open PySem PySem.Spec PyProof.Rows L2 DL
/-! the common divisor -/
theorem wh_gcd (n : Nat) : ∀ (a b : Int) (Q : Fl → Rho → Int → Prop) (X : Er → Rho → Int → Prop) (z : Int), 0 ≤ a → 0 ≤ b → b < n → (Q .nx [Sl.fr (.int (Int.gcd a b)), Sl.fr (.int 0)] z) →
    whL p0_common_divisor p1_common_divisor n [Sl.fr (.int a), Sl.fr (.int b)] Q X z := by
  induction n with
  | zero => intro a b Q X z h1 h2 h3; omega
  | succ n ih =>
    intro a b Q X z h1 h2 h3 hQ
    rw [whL_succ]
    by_cases hb : b = 0
    · subst hb
      simp [p0_common_divisor]
      rw [Int.gcd_zero_right] at hQ
      rwa [Int.natAbs_of_nonneg h1] at hQ
    · have := fmod_b a (b := b) (by omega)
      simp [p0_common_divisor, p1_common_divisor, hb]
      refine ih b (a.fmod b) Q X z h2 this.1 (by omega) ?_
      rw [gcd_step a b h1 (by omega)]
      exact hQ
theorem w_common_divisor (a b : Int) (Q : D → Int → Prop) (X : Er → Int → Prop) (z : Int) (h : ∀ g : Int, g = Int.gcd a b → Q (.int g) z) : m_common_divisor [.int a, .int b] Q X z := by
  rw [me_common_divisor]
  simp [s_common_divisor]
  rw [sWhile_a]
  refine ⟨(if b < 0 then -b else b).toNat + 1, wh_gcd _ _ _ _ _ _ (by split <;> omega) (by split <;> omega) (by split <;> omega) ?_⟩
  rw [gcd_abs]
  simpa using h _ rfl
end LW

namespace LW
open PySem PySem.Spec PyProof.Rows L2 DL
/-- the divisor with its sign -/
def shr (a b : Int) : Int := if b < 0 then -(Int.gcd a b : Int) else Int.gcd a b
theorem shr_ok {a b : Int} (h : b ≠ 0) (hb : b.natAbs < 2 ^ 1000) : shr a b ≠ 0 ∧ (shr a b).natAbs.log2 < 9000 := by
  have h1 : 0 < Int.gcd a b := Int.gcd_pos_iff.mpr (.inr h)
  have h2 : Int.gcd a b ≤ b.natAbs := Nat.le_of_dvd (by omega) (Int.gcd_dvd_natAbs_right a b)
  have h3 : (shr a b).natAbs = Int.gcd a b := by unfold shr; split <;> omega
  refine ⟨fun e => by rw [e] at h3; omega, log_lt2 (by omega)⟩
def rat (a b : Int) : D := .tup [.int (a.fdiv (shr a b)), .int (b.fdiv (shr a b))]
end LW

namespace LW
open PySem PySem.Spec PyProof.Rows L2 DL
def prD (p : Int × Int) : D := .tup [.int p.1, .int p.2]
def bad (p : Int × Int) : Prop := p.2 < 1 ∨ Int.gcd p.1 p.2 ≠ 1
instance (p : Int × Int) : Decidable (bad p) := inferInstanceAs (Decidable (_ ∨ _))
theorem w_is_fraction (a b : Int) (Q : D → Int → Prop) (X : Er → Int → Prop) (z : Int) (h0 : bad (a, b) → Q (.bl false) z) (h1 : ¬ bad (a, b) → Q (.bl true) z) : m_is_fraction [.tup [.int a, .int b]] Q X z := by
  rw [me_is_fraction]
  simp [s_is_fraction]
  unfold bad at h0 h1
  simp only at h0 h1
  refine ⟨fun hb => w_common_divisor a b _ _ z fun g hg => ?_, fun hb => h0 (.inl hb)⟩
  simp
  by_cases q : g = 1
  · have : Int.gcd a b = 1 := by omega
    simp [q]
    exact h1 (by omega)
  · have : ¬ Int.gcd a b = 1 := by omega
    simp [q]
    exact h0 (.inr this)
def ordF (p q : Int × Int) : Int := if p.1 * q.2 = q.1 * p.2 then 0 else if p.1 * q.2 < q.1 * p.2 then -1 else 1
def sm (p : Int × Int) : Prop := p.1.natAbs ≤ 10 ^ 30 ∧ p.2.natAbs ≤ 10 ^ 18
theorem w_fraction_order (a b c d : Int) (Q : D → Int → Prop) (X : Er → Int → Prop) (z : Int) (h1 : sm (a, b)) (h2 : sm (c, d)) (h : Q (.int (ordF (a, b) (c, d))) z) : m_fraction_order [.tup [.int a, .int b], .tup [.int c, .int d]] Q X z := by
  rw [me_fraction_order]
  obtain ⟨h1, h3⟩ := h1
  obtain ⟨h2, h4⟩ := h2
  simp only at h1 h2 h3 h4
  have m1 : MulC a d := mulC_r (by omega)
  have m2 : MulC c b := mulC_r (by omega)
  simp [s_fraction_order, m1, m2]
  unfold ordF at h
  simp only at h
  generalize a * d = x at h ⊢
  generalize c * b = y at h ⊢
  refine ⟨fun e => ?_, fun e => ⟨fun l => ?_, fun l => ?_⟩⟩
  · rwa [if_pos e] at h
  · rwa [if_neg e, if_pos l] at h
  · rwa [if_neg e, if_neg (by omega)] at h
theorem shr_pos {a b : Int} (h : 1 ≤ b) : shr a b = Int.gcd a b := by
  unfold shr
  rw [if_neg (by omega)]
theorem rat_eq {a b : Int} (h : 1 ≤ b) : (a.fdiv (shr a b) = a ∧ b.fdiv (shr a b) = b) ↔ Int.gcd a b = 1 := by
  rw [shr_pos h]
  have g0 : 0 < Int.gcd a b := Int.gcd_pos_iff.mpr (.inr (by omega))
  constructor
  · intro ⟨_, e⟩
    have d := Int.gcd_dvd_right (a := a) (b := b)
    obtain ⟨k, hk⟩ := d
    generalize hg : (Int.gcd a b : Int) = g at *
    have gp : 0 < g := by omega
    have ek : b.fdiv g = k := by rw [hk, Int.mul_comm]; exact Int.mul_fdiv_cancel k (by omega)
    rw [ek] at e
    subst e
    have : k * 1 = k * g := by rw [Int.mul_one, Int.mul_comm]; exact hk
    have := Int.eq_of_mul_eq_mul_left (by omega : k ≠ 0) this
    omega
  · intro e
    rw [e]
    simp
end LW

namespace LW
open PySem PySem.Spec PyProof.Rows L2 DL
structure Pc where
  lo : Int × Int
  li : Bool
  hi : Int × Int
  hf : Bool
def Pc.D (s : Pc) : D := .tup [prD s.lo, .bl s.li, prD s.hi, .bl s.hf]
def Pc.Sm (s : Pc) : Prop := sm s.lo ∧ sm s.hi
/-- a stretch as the program wants it -/
def Pc.ok (s : Pc) : Prop := ¬ bad s.lo ∧ ¬ bad s.hi ∧ 0 ≤ s.lo.1 ∧ ¬ (s.lo.1 = 0 ∧ s.li = true) ∧ (s.lo.1 * s.hi.2 < s.hi.1 * s.lo.2 ∨ (s.lo.1 * s.hi.2 = s.hi.1 * s.lo.2 ∧ s.li = true ∧ s.hf = true))
theorem w_is_stretch (s : Pc) (hs : s.Sm) (Q : D → Int → Prop) (X : Er → Int → Prop) (z : Int) (h1 : s.ok → Q (.bl true) z) (h0 : ¬ s.ok → Q (.bl false) z) : m_is_stretch [s.D] Q X z := by
  obtain ⟨⟨a, b⟩, li, ⟨c, d⟩, hf⟩ := s
  rw [me_is_stretch]
  unfold Pc.ok at h1 h0
  simp only at h1 h0
  simp [s_is_stretch, Pc.D, prD]
  refine w_is_fraction a b _ _ z (fun hb => ?_) (fun hb => ?_)
  · simp
    exact h0 (fun k => k.1 hb)
  · simp
    refine w_is_fraction c d _ _ z (fun hb2 => ?_) (fun hb2 => ?_)
    · simp
      exact h0 (fun k => k.2.1 hb2)
    · simp
      refine ⟨fun ha => h0 (fun k => by have := k.2.2.1; omega), fun ha => ?_⟩
      refine ⟨fun a0 => ⟨fun l => h0 (fun k => k.2.2.2.1 ⟨a0, l⟩), fun l => ?_⟩, fun a0 => ?_⟩
      all_goals refine w_fraction_order a b c d _ _ z hs.1 hs.2 ?_
      all_goals simp
      all_goals unfold ordF
      all_goals simp only
      all_goals have n0 : ¬ (a = 0 ∧ li = true) := fun k => by first | exact absurd k.1 a0 | (rw [l] at k; cases k.2)
      all_goals generalize a * d = x at *
      all_goals generalize c * b = y at *
      all_goals
        rcases Int.lt_trichotomy x y with q | q | q
        · have e : ¬ x = y := by omega
          simp [e, q]
          exact h1 ⟨hb, hb2, ha, n0, .inl q⟩
        · subst q
          simp
          refine ⟨fun hl => ?_, fun hl => h0 (fun k => ?_)⟩
          · cases hf with
            | true => exact h1 ⟨hb, hb2, ha, n0, .inr ⟨rfl, hl, rfl⟩⟩
            | false => exact h0 (fun k => by
                rcases k.2.2.2.2 with k | k
                · omega
                · cases k.2.2)
          · rcases k.2.2.2.2 with k | k
            · omega
            · rw [hl] at k; cases k.2.1
        · have e : ¬ x = y := by omega
          have e2 : ¬ x < y := by omega
          simp [e, e2]
          exact h0 (fun k => by
                rcases k.2.2.2.2 with k | k
                · omega
                · omega)
end LW

namespace LW
open PySem PySem.Spec PyProof.Rows L2 DL
/-- the lowest terms -/
def rr (u v : Int) : Int × Int := (u.fdiv (shr u v), v.fdiv (shr u v))
theorem rat_rr (u v : Int) : rat u v = prD (rr u v) := rfl
/-- a fraction in lowest terms, not below 0 -/
structure Fr (p : Int × Int) (m : Int) : Prop where
  n0 : 0 ≤ p.1
  d1 : 1 ≤ p.2
  n9 : p.1 ≤ m
  d9 : p.2 ≤ m
  g : Int.gcd p.1 p.2 = 1
theorem Fr.bad {p : Int × Int} {m : Int} (h : Fr p m) : ¬ bad p := by
  have := h.d1
  have := h.g
  unfold LW.bad
  omega
theorem rr_eqs {u v : Int} (h1 : 1 ≤ v) : ∃ g : Int, 1 ≤ g ∧ u = (rr u v).1 * g ∧ v = (rr u v).2 * g ∧ Int.gcd (rr u v).1 (rr u v).2 = 1 := by
  have g0 : 0 < Int.gcd u v := Int.gcd_pos_iff.mpr (.inr (by omega))
  obtain ⟨k1, e1⟩ := Int.gcd_dvd_left (a := u) (b := v)
  obtain ⟨k2, e2⟩ := Int.gcd_dvd_right (a := u) (b := v)
  unfold rr
  rw [shr_pos h1]
  generalize hgg : Int.gcd u v = g at e1 e2 g0 ⊢
  have f1 : u.fdiv g = k1 := by rw [e1, Int.mul_comm]; exact Int.mul_fdiv_cancel k1 (by omega)
  have f2 : v.fdiv g = k2 := by rw [e2, Int.mul_comm]; exact Int.mul_fdiv_cancel k2 (by omega)
  refine ⟨g, by omega, by simp only [f1]; rw [Int.mul_comm]; exact e1, by simp only [f2]; rw [Int.mul_comm]; exact e2, ?_⟩
  simp only [f1, f2]
  have h : Int.gcd ((g : Int) * k1) ((g : Int) * k2) = g := by rw [← e1, ← e2]; exact hgg
  rw [Int.gcd_mul_left, Int.natAbs_natCast] at h
  exact Nat.eq_of_mul_eq_mul_left g0 (by rw [h, Nat.mul_one])
theorem rr_fr {u v m : Int} (h0 : 0 ≤ u) (h1 : 1 ≤ v) (hu : u ≤ m) (hv : v ≤ m) : Fr (rr u v) m := by
  obtain ⟨g, g1, e1, e2, eg⟩ := rr_eqs (u := u) h1
  generalize rr u v = p at *
  have n0 : 0 ≤ p.1 := Int.le_of_mul_le_mul_right (a := g) (by omega) (by omega)
  have d1 : 0 < p.2 := lt_of_mul (b := g) (by omega) (by omega)
  have k1 := le_mul n0 g1
  have k2 := le_mul (a := p.2) (by omega) g1
  exact ⟨n0, by omega, by omega, by omega, eg⟩
theorem rr_pos {u v : Int} (h0 : 0 < u) (h1 : 1 ≤ v) : 0 < (rr u v).1 := by
  obtain ⟨g, g1, e1, e2, eg⟩ := rr_eqs (u := u) h1
  exact lt_of_mul (b := g) (by omega) (by omega)
theorem dvd_cop {a b d : Int} (h : b ∣ a * d) (g : Int.gcd a b = 1) : b ∣ d := by
  have h1 := Int.natAbs_dvd_natAbs.mpr h
  rw [Int.natAbs_mul] at h1
  exact Int.natAbs_dvd_natAbs.mp (Nat.Coprime.dvd_of_dvd_mul_left (m := a.natAbs) (by unfold Nat.Coprime; rw [Nat.gcd_comm]; exact g) h1)
theorem Fr.eq {p q : Int × Int} {m : Int} (hp : Fr p m) (hq : Fr q m) (e : p.1 * q.2 = q.1 * p.2) : p = q := by
  obtain ⟨a, b⟩ := p
  obtain ⟨c, d⟩ := q
  have b1 := hp.d1
  have d1 := hq.d1
  have g1 := hp.g
  have g2 := hq.g
  simp only at e b1 d1 g1 g2
  have u1 : b ∣ a * d := ⟨c, by rw [e, Int.mul_comm]⟩
  have u2 : d ∣ c * b := ⟨a, by rw [← e, Int.mul_comm]⟩
  have v1 := Int.le_of_dvd (by omega) (dvd_cop u1 g1)
  have v2 := Int.le_of_dvd (by omega) (dvd_cop u2 g2)
  have : b = d := by omega
  subst this
  rw [Int.eq_of_mul_eq_mul_right (by omega : b ≠ 0) e]
@[simp] theorem eq_pair (a b c d : Int) (Q : Bool → Prop) : dEqG (.tup [.int a, .int b]) (.tup [.int c, .int d]) Q = Q (decide (a = c ∧ b = d)) := by
  have : PyData.eqv (D.py (.tup [.int a, .int b])) (D.py (.tup [.int c, .int d])) = decide (a = c ∧ b = d) := by
    have f : ∀ x y : Int, (x == y) = decide (x = y) := fun x y => by rw [Bool.eq_iff_iff]; simp
    simp [D.py, pyL, PyData.eqv, PyData.eqvAll, f]
  unfold dEqG
  rw [this]
  simp [D.isPy, isPyL, D.py, pyL, SeqAt.shaped, PyData.canLay0, PyData.canLayAll0, PyData.depth, PyData.depthAll]
end LW

namespace LW
open PySem PySem.Spec PyProof.Rows L2 DL
/-! the draws -/
theorem w__law_dv_coin (n : Int) (Q : D → Int → Prop) (X : Er → Int → Prop) (z : Int) (hn : 0 < n) (hn2 : n < 10 ^ 18) (hz : z < 10 ^ 18) (h : ∀ c z', 0 ≤ c → c < n → z' ≤ z + 1 → Q (.int c) z') : m__law_dv_coin [.cel, .int n] Q X z := by
  rw [me__law_dv_coin]
  have e1 : (10 : Int) ^ 18 = 1000000000000000000 := by decide
  have n0 : ¬ n = 0 := by omega
  simp [s__law_dv_coin, n0]
  intro x hx
  refine ⟨fun h1 x2 hx2 x3 hx3 => ?_, fun h1 h0 => ⟨by omega, fun y hy hy2 _ => ?_⟩⟩
  · have := fmod_b x2 hn
    exact ⟨log_lt (by omega), Int.fdiv_nonneg hx3 (by omega), h _ _ this.1 this.2 (by omega)⟩
  · refine ⟨mulC_l (by omega), bits_3 (by omega), fun _ => ⟨mulC_l (by omega), bits_2 ?_, log4096, ?_⟩⟩
    · have := fmod_b ((y + 1500450271 * (z + 1)) ^ 3) (b := 10000000000000000000000013) (by omega)
      omega
    · have := fmod_b ((((((y + 1500450271 * (z + 1)) ^ 3).fmod 10000000000000000000000013 + 3267000013 * (z + 1)) ^ 2).fmod 1000000000000000000000007).fdiv 4096) hn
      exact h _ _ this.1 this.2 (by omega)
theorem w__law_dv_purse (ns : List Int) (i : Nat) (Q : List D → Int → Prop) (X : Er → Int → Prop) (z : Int) (hi : i < 1000) (h : ∀ x y : Int, 0 ≤ x → 0 ≤ y → y < 10 ^ 24 + 7 → Q [.int x, .int y, .int 0] z) : m__law_dv_purse [.scr ns, .int i] Q X z := by
  rw [me__law_dv_purse]
  simp [s__law_dv_purse]
  refine ⟨fun hl => ⟨ns[i], atI_nat ns i hl, mulC_r (by omega), mulC_r (by omega), ?_⟩, fun hl => ⟨mulC_r (by omega), mulC_r (by omega), ?_⟩⟩
  · have := fmod_b (ns[i] * 48817 + ↑i * 6700417 + 224737) (b := 1000000000000000000000007) (by omega)
    refine h _ _ ?_ this.1 (by omega)
    split <;> omega
  · have := fmod_b (↑i * 6700417 + 224737) (b := 1000000000000000000000007) (by omega)
    exact h _ _ (by omega) this.1 (by omega)
end LW

namespace LW
open PySem PySem.Spec PyProof.Rows L2 DL
theorem le_mul1 {a y : Int} (ha : 0 ≤ a) (hy : 1 ≤ y) : a ≤ a * y := by
  have := Int.mul_le_mul_of_nonneg_left hy ha
  omega
theorem t_shared (a b : Int) (t : Sl) (hb : 0 < b) (Q : Fl → Rho → Int → Prop) (X : Er → Rho → Int → Prop) (z : Int) (h : Q .nx [Sl.fr (.int b), Sl.fr (.int (a.fmod b)), t] z) : p0__law_dv_shared [Sl.fr (.int a), Sl.fr (.int b), t] Q X z := by
  rw [p0__law_dv_shared]
  have b0 : ¬ b = 0 := by omega
  simp [b0]
  exact h
theorem t_shared0 (a : Int) (t : Sl) (Q : Fl → Rho → Int → Prop) (X : Er → Rho → Int → Prop) (z : Int) (h : ∀ ρ, Q (.ret (.int a)) ρ z) : p0__law_dv_shared [Sl.fr (.int a), Sl.fr (.int 0), t] Q X z := by
  rw [p0__law_dv_shared]
  simp
  exact h _
theorem wh_shared (ds : List D) : ∀ (a b : Int) (t : Sl) (Q : Fl → Rho → Int → Prop) (X : Er → Rho → Int → Prop) (z : Int), 0 ≤ b → b < a → a * b < 2 ^ ds.length → (∀ ρ, Q (.ret (.int (Int.gcd a b))) ρ z) → (∀ t, Q .nx [Sl.fr (.int (Int.gcd a b)), Sl.fr (.int 0), t] z) →
    forL (gN 2) p0__law_dv_shared ds [Sl.fr (.int a), Sl.fr (.int b), t] Q X z := by
  induction ds with
  | nil =>
    intro a b t Q X z h0 h1 h2 hr hn
    have b0 : b = 0 := by
      rcases Int.lt_or_eq_of_le h0 with k | k
      · have : 0 < a * b := Int.mul_pos (by omega) k
        simp at h2
        omega
      · exact k.symm
    subst b0
    rw [Int.gcd_zero_right, Int.natAbs_of_nonneg (by omega)] at hn
    exact hn t
  | cons d ds ih =>
    intro a b t Q X z h0 h1 h2 hr hn
    simp only [forL_cons, gN_a, List.set_cons_zero, List.set_cons_succ]
    by_cases hb : b = 0
    · subst hb
      refine t_shared0 _ _ _ _ z fun ρ => ?_
      rw [Int.gcd_zero_right, Int.natAbs_of_nonneg (by omega)] at hr
      simp
      exact hr ρ
    · refine t_shared _ _ _ (by omega) _ _ z ?_
      simp only [forK_1]
      have r := fmod_b a (b := b) (by omega)
      have e := gcd_step a b (by omega) (by omega)
      refine ih b (a.fmod b) _ _ _ z r.1 r.2 ?_ (by rw [e]; exact hr) (by rw [e]; exact hn)
      rw [Int.fmod_eq_emod_of_nonneg a (by omega)] at r ⊢
      have ed := Int.mul_ediv_add_emod a b
      have q1 : 1 ≤ a / b := Int.le_ediv_of_mul_le (by omega) (by omega)
      have k1 : b ≤ b * (a / b) := le_mul1 (by omega) q1
      have k2 : 2 * (a % b) ≤ a := by omega
      have k3 : b * (2 * (a % b)) ≤ b * a := Int.mul_le_mul_of_nonneg_left k2 (by omega)
      have k4 : b * (2 * (a % b)) = 2 * (b * (a % b)) := by grind
      have k5 : b * a = a * b := Int.mul_comm _ _
      rw [List.length_cons, Int.pow_succ] at h2
      omega
theorem w__law_dv_shared (a b : Int) (Q : D → Int → Prop) (X : Er → Int → Prop) (z : Int) (hb : b.natAbs < 2 ^ 190) (h : Q (.int (Int.gcd a b)) z) : m__law_dv_shared [.int a, .int b] Q X z := by
  rw [me__law_dv_shared]
  simp [s__law_dv_shared]
  rw [← gcd_abs] at h
  generalize ha' : (if a < 0 then -a else a) = a' at h ⊢
  generalize hb' : (if b < 0 then -b else b) = b' at h ⊢
  have a0 : 0 ≤ a' := by split at ha' <;> omega
  have b0 : 0 ≤ b' := by split at hb' <;> omega
  have b1 : b' < 2 ^ 190 := by split at hb' <;> omega
  have sp : rngD 0 400 = .int 0 :: .int 1 :: rngD (0 + 1 + 1) 398 := rfl
  rw [sp]
  simp only [forL_cons, gN_a, List.set_cons_zero, List.set_cons_succ]
  by_cases hz : b' = 0
  · subst hz
    refine t_shared0 _ _ _ _ z fun ρ => ?_
    rw [Int.gcd_zero_right, Int.natAbs_of_nonneg a0] at h
    simp
    exact h
  · refine t_shared _ _ _ (by omega) _ _ z ?_
    simp only [forK_1, forL_cons, gN_a, List.set_cons_zero, List.set_cons_succ]
    have r := fmod_b a' (b := b') (by omega)
    have e := gcd_step a' b' (by omega) (by omega)
    have fin : forL (gN 2) p0__law_dv_shared (.int 1 :: rngD (0 + 1 + 1) 398) [Sl.fr (.int b'), Sl.fr (.int (a'.fmod b')), Sl.fr (.int 0)] (fun fl ρ' z' => fSeq (sRet (eVar 0)) fl ρ' (outF Q) (fun e x z => X e z) z') (fun e x z => X e z) z := by
      refine wh_shared _ _ _ _ _ _ z r.1 r.2 ?_ (fun ρ => ?_) fun t => ?_
      · have k : b' * a'.fmod b' ≤ b' * b' := Int.mul_le_mul_of_nonneg_left (by omega) (by omega)
        have k2 : b' * b' ≤ b' * 2 ^ 190 := Int.mul_le_mul_of_nonneg_left (by omega) (by omega)
        have k3 : b' * 2 ^ 190 ≤ 2 ^ 190 * 2 ^ 190 := Int.mul_le_mul_of_nonneg_right (by omega) (by omega)
        have e2 : (D.int 1 :: rngD (0 + 1 + 1) 398).length = 399 := rfl
        rw [e2]
        have : (2 : Int) ^ 190 * 2 ^ 190 < 2 ^ 399 := by decide +kernel
        omega
      · simp
        rw [e]
        exact h
      · simp
        rw [e]
        exact h
    simpa only [forL_cons, gN_a, List.set_cons_zero, List.set_cons_succ] using fin
theorem w__law_dv_ratio (a b : Int) (Q : D → Int → Prop) (X : Er → Int → Prop) (z : Int) (hb : b.natAbs < 2 ^ 190) (h0 : 1 ≤ b) (h : Q (rat a b) z) : m__law_dv_ratio [.int a, .int b] Q X z := by
  rw [me__law_dv_ratio]
  simp [s__law_dv_ratio]
  refine w__law_dv_shared a b _ _ z hb ?_
  have hs := shr_ok (a := a) (b := b) (by omega) (by omega)
  have e := shr_pos (a := a) h0
  unfold rat at h
  rw [e] at hs h
  have n0 : ¬ b < 0 := by omega
  generalize hg : (Int.gcd a b : Int) = g at hs h
  have m1 : MulC 2 0 := mulC_l (by omega)
  have m2 : MulC g 1 := mulC_r (by omega)
  simp [n0, m1, m2, show 0 ≤ b by omega]
  exact ⟨hs, h⟩
theorem mulC_big {a b : Int} (ha : a.natAbs < 2 ^ 1000) (hb : b.natAbs < 2 ^ 1000) : MulC a b := by
  refine .inr (.inr ?_)
  unfold CMulW
  have k1 : a.natAbs.log2 < 1001 := by
    by_cases h : a.natAbs = 0
    · rw [h]; decide
    · have := (Nat.log2_lt h).mpr (show a.natAbs < 2 ^ 1001 by omega)
      exact this
  have k2 : b.natAbs.log2 < 1001 := by
    by_cases h : b.natAbs = 0
    · rw [h]; decide
    · have := (Nat.log2_lt h).mpr (show b.natAbs < 2 ^ 1001 by omega)
      exact this
  omega
def bg (p : Int × Int) : Prop := p.1.natAbs < 2 ^ 300 ∧ p.2.natAbs < 2 ^ 300
theorem w__law_dv_less (p q : Int × Int) (hp : bg p) (hq : bg q) (Q : D → Int → Prop) (X : Er → Int → Prop) (z : Int) (h : Q (.bl (decide (p.1 * q.2 < q.1 * p.2))) z) : m__law_dv_less [prD p, prD q] Q X z := by
  rw [me__law_dv_less]
  have a1 := hp.1
  have a2 := hp.2
  have b1 := hq.1
  have b2 := hq.2
  have m1 : MulC p.1 q.2 := mulC_big (by omega) (by omega)
  have m2 : MulC q.1 p.2 := mulC_big (by omega) (by omega)
  simp [s__law_dv_less, prD, m1, m2]
  exact h
theorem w_order_big (a b c d : Int) (Q : D → Int → Prop) (X : Er → Int → Prop) (z : Int) (h1 : bg (a, b)) (h2 : bg (c, d)) (h : Q (.int (ordF (a, b) (c, d))) z) : m_fraction_order [.tup [.int a, .int b], .tup [.int c, .int d]] Q X z := by
  rw [me_fraction_order]
  obtain ⟨h1, h3⟩ := h1
  obtain ⟨h2, h4⟩ := h2
  simp only at h1 h2 h3 h4
  have m1 : MulC a d := mulC_big (by omega) (by omega)
  have m2 : MulC c b := mulC_big (by omega) (by omega)
  simp [s_fraction_order, m1, m2]
  unfold ordF at h
  simp only at h
  generalize a * d = x at h ⊢
  generalize c * b = y at h ⊢
  refine ⟨fun e => ?_, fun e => ⟨fun l => ?_, fun l => ?_⟩⟩
  · rwa [if_pos e] at h
  · rwa [if_neg e, if_pos l] at h
  · rwa [if_neg e, if_neg (by omega)] at h
end LW

namespace LW
open PySem PySem.Spec PyProof.Rows L2 DL
theorem lc_run {α : Type} (k : Nat) (ρ0 : Rho) (g f : α → D) (hw : ∀ d, wipeR (ρ0.set k (.fr d)) [k] = ρ0) (body : E D) (z : Int) : ∀ (xs : List α) (acc : List D) (Q : List D → Rho → Int → Prop) (X : Er → Rho → Int → Prop),
    (∀ x ∈ xs, ∀ Q' : D → Rho → Int → Prop, Q' (f x) (ρ0.set k (.fr (g x))) z → body (ρ0.set k (.fr (g x))) Q' (fun _ _ _ => False) z) → acc.length + xs.length ≤ 16777216 → Q (acc ++ xs.map f) ρ0 z → lcL [k] (gN k) (ep true) body (xs.map g) acc ρ0 Q X z := by
  intro xs
  induction xs with
  | nil => intro acc Q X _ _ h; simpa using h
  | cons x xs ih =>
    intro acc Q X hb hl h
    simp only [List.map_cons, List.length_cons] at hl h ⊢
    rw [lcL_cons]
    simp
    refine hb x (List.mem_cons_self ..) _ ⟨by omega, ?_⟩
    rw [hw]
    exact ih _ _ _ (fun y hy => hb y (List.mem_cons_of_mem _ hy)) (by simp; omega) (by simpa using h)
def gt (G : List (Int × Int)) (i : Nat) : Int × Int := G.getD i (1, 1)
structure Grid (G : List (Int × Int)) : Prop where
  len : 2 ≤ G.length
  len9 : G.length ≤ 1000
  n0 : ∀ i, 0 ≤ (gt G i).1
  le : ∀ i, (gt G i).1 ≤ (gt G i).2
  d1 : ∀ i, 1 ≤ (gt G i).2
  d9 : ∀ i, (gt G i).2 ≤ 10 ^ 12
  g : ∀ i, Int.gcd (gt G i).1 (gt G i).2 = 1
  asc : ∀ i j, i < j → j < G.length → (gt G i).1 * (gt G j).2 < (gt G j).1 * (gt G i).2
  first : gt G 0 = (0, 1)
  last : gt G (G.length - 1) = (1, 1)
/-- the list as data -/
def prs (G : List (Int × Int)) : List D := G.map prD
structure Sums (S : List Int) (k : Nat) : Prop where
  len : S.length = k + 1
  first : S.getD 0 0 = 0
  asc : ∀ i j, i < j → j ≤ k → S.getD i 0 < S.getD j 0
  bnd : ∀ i, i ≤ k → S.getD i 0 ≤ i * (10 ^ 10 + 1)
theorem getD_app (S : List Int) (x : Int) (i : Nat) : (S ++ [x]).getD i 0 = if i = S.length then x else S.getD i 0 := by
  simp only [List.getD_eq_getElem?_getD]
  rw [List.getElem?_append]
  split
  · rw [if_neg (by omega)]
  · split
    · rename_i h; subst h; simp
    · rw [List.getElem?_eq_none (by simp; omega), List.getElem?_eq_none (by omega)]
theorem Sums.app {S : List Int} {k : Nat} (h : Sums S k) {c : Int} (c0 : 0 ≤ c) (c1 : c < 10 ^ 10) : Sums (S ++ [S.getD k 0 + 1 + c]) (k + 1) := by
  have hl := h.len
  refine ⟨by simp [hl], ?_, fun i j hij hj => ?_, fun i hi => ?_⟩
  · rw [getD_app, if_neg (by omega)]; exact h.first
  · rw [getD_app, getD_app, if_neg (by omega)]
    split
    · rcases Nat.lt_or_eq_of_le (show i ≤ k by omega) with u | u
      · have := h.asc i k u (by omega); omega
      · subst u; omega
    · exact h.asc i j hij (by omega)
  · rw [getD_app]
    split
    · have := h.bnd k (by omega)
      have e : ((i : Int)) = k + 1 := by omega
      rw [e]
      have e3 : ((k : Int) + 1) * (10 ^ 10 + 1) = k * (10 ^ 10 + 1) + (10 ^ 10 + 1) := by grind
      omega
    · exact h.bnd i (by omega)
theorem Sums.lastE {S : List Int} {k : Nat} (h : Sums S k) : S.getLast? = some (S.getD k 0) := by
  have hl := h.len
  rw [List.getLast?_eq_getElem?, hl, List.getD_eq_getElem?_getD]
  simp
  rw [List.getElem?_eq_getElem (by omega)]
  rfl
theorem Sums.pos {S : List Int} {k : Nat} (h : Sums S k) (i : Nat) (hi : i ≤ k) : 0 ≤ S.getD i 0 ∧ (0 < i → 0 < S.getD i 0) := by
  have := h.first
  rcases Nat.eq_zero_or_pos i with u | u
  · subst u; exact ⟨by omega, fun k => by omega⟩
  · have := h.asc 0 i u hi
    exact ⟨by omega, fun _ => by omega⟩
theorem Sums.grid {S : List Int} {k : Nat} (h : Sums S k) (k1 : 1 ≤ k) (k9 : k ≤ 20) : Grid (S.map fun s => rr s (S.getD k 0)) := by
  have hl := h.len
  have T := h.pos k (by omega)
  have Tb := h.bnd k (by omega)
  have T1 : 1 ≤ S.getD k 0 := by have := T.2 (by omega); omega
  have Tk : S.getD k 0 ≤ 10 ^ 12 := by
    have : (k : Int) * (10 ^ 10 + 1) ≤ 20 * (10 ^ 10 + 1) := Int.mul_le_mul_of_nonneg_right (by omega) (by omega)
    omega
  generalize hT : S.getD k 0 = T' at *
  have eg : ∀ i, i ≤ k → gt (S.map fun s => rr s T') i = rr (S.getD i 0) T' := fun i hi => by
    unfold gt
    simp only [List.getD_eq_getElem?_getD]
    rw [List.getElem?_map, List.getElem?_eq_getElem (by omega)]
    simp
  have eo : ∀ i, k < i → gt (S.map fun s => rr s T') i = (1, 1) := fun i hi => by
    unfold gt
    simp only [List.getD_eq_getElem?_getD]
    rw [List.getElem?_map, List.getElem?_eq_none (by omega)]
    simp
  have le : ∀ i, i ≤ k → S.getD i 0 ≤ T' := fun i hi => by
    rcases Nat.lt_or_eq_of_le hi with u | u
    · have := h.asc i k u (by omega); omega
    · subst u; omega
  have el : ∀ i, 0 ≤ (gt (S.map fun s => rr s T') i).1 ∧ (gt (S.map fun s => rr s T') i).1 ≤ (gt (S.map fun s => rr s T') i).2 ∧ 1 ≤ (gt (S.map fun s => rr s T') i).2 ∧ (gt (S.map fun s => rr s T') i).2 ≤ 10 ^ 12 ∧ Int.gcd (gt (S.map fun s => rr s T') i).1 (gt (S.map fun s => rr s T') i).2 = 1 := fun i => by
    by_cases hi : i ≤ k
    · rw [eg i hi]
      have p := (h.pos i hi).1
      have f := rr_fr (u := S.getD i 0) (v := T') (m := 10 ^ 12) p T1 (by have := le i hi; omega) (by omega)
      obtain ⟨g, g1, e1, e2, e3⟩ := rr_eqs (u := S.getD i 0) (v := T') T1
      refine ⟨f.n0, ?_, f.d1, f.d9, f.g⟩
      have := le i hi
      exact Int.le_of_mul_le_mul_right (a := g) (by omega) (by omega)
    · rw [eo i (by omega)]
      simp
  refine ⟨by simp; omega, by simp; omega, fun i => (el i).1, fun i => (el i).2.1, fun i => (el i).2.2.1, fun i => (el i).2.2.2.1, fun i => (el i).2.2.2.2, fun i j hij hj => ?_, ?_, ?_⟩
  · simp at hj
    have a := h.asc i j hij (by omega)
    rw [eg i (by omega), eg j (by omega)]
    obtain ⟨g, g1, e1, e2, e3⟩ := rr_eqs (u := S.getD i 0) (v := T') T1
    obtain ⟨g', g1', e1', e2', e3'⟩ := rr_eqs (u := S.getD j 0) (v := T') T1
    have k1 : S.getD i 0 * T' < S.getD j 0 * T' := Int.mul_lt_mul_of_pos_right a (by omega)
    generalize rr (S.getD i 0) T' = p at *
    generalize rr (S.getD j 0) T' = q at *
    generalize S.getD i 0 = x at *
    generalize S.getD j 0 = y at *
    have k2 : p.1 * q.2 * (g * g') = x * T' := by
      rw [e1]
      have : T' = q.2 * g' := e2'
      grind
    have k3 : q.1 * p.2 * (g * g') = y * T' := by
      rw [e1']
      have : T' = p.2 * g := e2
      grind
    exact Int.lt_of_mul_lt_mul_right (a := g * g') (by omega) (Int.mul_nonneg (by omega) (by omega))
  · rw [eg 0 (by omega), h.first]
    unfold rr
    rw [shr_pos T1, Int.gcd_zero_left]
    have : (T'.natAbs : Int) = T' := by omega
    rw [this]
    simp
    exact Int.fdiv_self (by omega)
  · rw [List.length_map, hl, eg _ (by omega), show k + 1 - 1 = k by omega, hT]
    unfold rr
    rw [shr_pos T1, Int.gcd_self]
    have : (T'.natAbs : Int) = T' := by omega
    rw [this]
    rw [Int.fdiv_self (by omega)]
theorem rngD_length : ∀ (n : Nat) (lo : Int), (rngD lo n).length = n
  | 0, _ => rfl
  | n + 1, lo => by
    have := rngD_length n (lo + 1)
    show (rngD (lo + 1) n).length + 1 = _
    omega
theorem rngD_eq : ∀ (n lo : Nat), rngD (lo : Int) n = (List.range' lo n).map fun j : Nat => D.int (j : Int)
  | 0, _ => rfl
  | n + 1, lo => by
    have := rngD_eq n (lo + 1)
    rw [List.range'_succ, List.map_cons, ← this]
    rfl
end LW

namespace LW
open PySem PySem.Spec PyProof.Rows L2 DL
/-- pairs of pieces -/
structure Lot (P : List (Int × Int)) (L : Int) : Prop where
  lo : ∀ p ∈ P, 0 ≤ p.1
  le : ∀ p ∈ P, p.1 ≤ p.2
  hi : ∀ p ∈ P, p.2 ≤ L
theorem Lot.nil {L : Int} : Lot [] L := ⟨(fun _ hp => nomatch hp), (fun _ hp => nomatch hp), (fun _ hp => nomatch hp)⟩
theorem atI_prs (G : List (Int × Int)) (i : Int) (h0 : 0 ≤ i) (h1 : i < G.length) : L2.atI (prs G) i = some (prD (gt G i.toNat)) := by
  obtain ⟨j, rfl⟩ := Int.eq_ofNat_of_zero_le h0
  have hj : j < (prs G).length := by simp [prs]; omega
  rw [atI_nat _ j hj]
  unfold prs gt
  simp [List.getD_eq_getElem?_getD]
  rw [List.getElem?_eq_getElem (by omega)]
  simp
  exact List.getElem_map ..
def rgF (G : List (Int × Int)) (p : Int × Int) : Pc := ⟨gt G ((p.1 + 1) / 2).toNat, decide (p.1 % 2 = 1), gt G (p.2 / 2 + 1).toNat, decide (p.2 % 2 = 1)⟩
end LW

namespace LW
open PySem PySem.Spec PyProof.Rows L2 DL
/-! sets of pieces: plain lists of pairs -/
abbrev PP := Int × Int
def Cov (P : List PP) (j : Int) : Prop := ∃ p, p ∈ P ∧ p.1 ≤ j ∧ j ≤ p.2
theorem cov_nil {j : Int} : ¬ Cov [] j := fun ⟨p, hp, _⟩ => nomatch hp
theorem cov_cons {p : PP} {P : List PP} {j : Int} : Cov (p :: P) j ↔ (p.1 ≤ j ∧ j ≤ p.2) ∨ Cov P j := by
  constructor
  · rintro ⟨q, hq, h1, h2⟩
    rcases List.mem_cons.mp hq with rfl | hq
    · exact .inl ⟨h1, h2⟩
    · exact .inr ⟨q, hq, h1, h2⟩
  · rintro (⟨h1, h2⟩ | ⟨q, hq, h1, h2⟩)
    · exact ⟨p, List.mem_cons_self .., h1, h2⟩
    · exact ⟨q, List.mem_cons_of_mem _ hq, h1, h2⟩
theorem cov_app {P R : List PP} {j : Int} : Cov (P ++ R) j ↔ Cov P j ∨ Cov R j := by
  induction P with
  | nil => exact ⟨fun h => .inr h, fun h => h.elim (fun k => absurd k cov_nil) id⟩
  | cons p P ih =>
    rw [List.cons_append, cov_cons, cov_cons, ih]
    constructor
    · rintro (h | h | h)
      · exact .inl (.inl h)
      · exact .inl (.inr h)
      · exact .inr h
    · rintro ((h | h) | h)
      · exact .inl h
      · exact .inr (.inl h)
      · exact .inr (.inr h)
theorem cov_one {p : PP} {j : Int} : Cov [p] j ↔ p.1 ≤ j ∧ j ≤ p.2 := by
  rw [cov_cons]
  exact ⟨fun h => h.elim id fun k => absurd k cov_nil, fun h => .inl h⟩
theorem cov_mem {P R : List PP} (h : ∀ p, p ∈ P ↔ p ∈ R) (j : Int) : Cov P j ↔ Cov R j := ⟨fun ⟨p, a, b⟩ => ⟨p, (h p).mp a, b⟩, fun ⟨p, a, b⟩ => ⟨p, (h p).mpr a, b⟩⟩
/-- as few as can be, in order -/
structure Canon (P : List PP) : Prop where
  pw : P.Pairwise fun a b => a.2 + 1 < b.1
  le : ∀ p ∈ P, p.1 ≤ p.2
theorem Canon.nil : Canon [] := ⟨List.Pairwise.nil, fun p hp => nomatch hp⟩
theorem Canon.tail {p : PP} {P : List PP} (h : Canon (p :: P)) : Canon P := ⟨(List.pairwise_cons.mp h.pw).2, fun q hq => h.le q (List.mem_cons_of_mem _ hq)⟩
theorem Canon.app {P : List PP} {p : PP} (h : Canon P) (hp : p.1 ≤ p.2) (hs : ∀ q ∈ P, q.2 + 1 < p.1) : Canon (P ++ [p]) := by
  refine ⟨List.pairwise_append.mpr ⟨h.pw, List.pairwise_singleton _ _, fun a ha b hb => ?_⟩, fun q hq => ?_⟩
  · rw [List.mem_singleton] at hb
    subst hb
    exact hs a ha
  · rcases List.mem_append.mp hq with k | k
    · exact h.le q k
    · rw [List.mem_singleton] at k
      subst k
      exact hp
theorem Canon.after {p : PP} {P : List PP} (h : Canon (p :: P)) {j : Int} (hj : Cov P j) : p.2 + 1 < j := by
  obtain ⟨q, hq, h1, h2⟩ := hj
  have := (List.pairwise_cons.mp h.pw).1 q hq
  omega
theorem Canon.head {p : PP} {P : List PP} (h : Canon (p :: P)) {j : Int} (hj : Cov (p :: P) j) : p.1 ≤ j := by
  rcases cov_cons.mp hj with k | k
  · exact k.1
  · have := h.after k
    have := h.le p (List.mem_cons_self ..)
    omega
theorem Canon.uniq : ∀ {P R : List PP}, Canon P → Canon R → (∀ j, Cov P j ↔ Cov R j) → P = R
  | [], [], _, _, _ => rfl
  | [], r :: R, _, hr, h => absurd ((h r.1).mpr ⟨r, List.mem_cons_self .., Int.le_refl _, hr.le r (List.mem_cons_self ..)⟩) cov_nil
  | p :: P, [], hp, _, h => absurd ((h p.1).mp ⟨p, List.mem_cons_self .., Int.le_refl _, hp.le p (List.mem_cons_self ..)⟩) cov_nil
  | p :: P, r :: R, hp, hr, h => by
    have p1 := hp.le p (List.mem_cons_self ..)
    have r1 := hr.le r (List.mem_cons_self ..)
    have a1 : r.1 ≤ p.1 := hr.head ((h p.1).mp (cov_cons.mpr (.inl ⟨by omega, p1⟩)))
    have a2 : p.1 ≤ r.1 := hp.head ((h r.1).mpr (cov_cons.mpr (.inl ⟨by omega, r1⟩)))
    have e1 : p.1 = r.1 := by omega
    have e2 : p.2 = r.2 := by
      rcases Int.lt_trichotomy p.2 r.2 with k | k | k
      · rcases cov_cons.mp ((h (p.2 + 1)).mpr (cov_cons.mpr (.inl ⟨by omega, by omega⟩))) with w | w
        · omega
        · have := hp.after w; omega
      · exact k
      · rcases cov_cons.mp ((h (r.2 + 1)).mp (cov_cons.mpr (.inl ⟨by omega, by omega⟩))) with w | w
        · omega
        · have := hr.after w; omega
    have e : p = r := by
      obtain ⟨a, b⟩ := p
      obtain ⟨c, d⟩ := r
      simp only at e1 e2
      rw [e1, e2]
    subst e
    rw [Canon.uniq hp.tail hr.tail fun j => ?_]
    constructor
    · intro k
      have := hp.after k
      rcases cov_cons.mp ((h j).mp (cov_cons.mpr (.inr k))) with w | w
      · omega
      · exact w
    · intro k
      have := hr.after k
      rcases cov_cons.mp ((h j).mpr (cov_cons.mpr (.inr k))) with w | w
      · omega
      · exact w
/-! merge sort by starts -/
def lt1 (p q : PP) : Bool := decide (q.1 < p.1)
def mrg : List PP → List PP → List PP
  | [], R => R
  | p :: A, R => R.takeWhile (lt1 p) ++ p :: mrg A (R.dropWhile (lt1 p))
def srt : Nat → List PP → List PP
  | 0, P => P
  | k + 1, P => if P.length < 2 then P else mrg (srt k (P.take (P.length / 2))) (srt k (P.drop (P.length / 2)))
abbrev Srt (P : List PP) : Prop := P.Pairwise fun a b => a.1 ≤ b.1
theorem mrg_mem : ∀ (A R : List PP) (x : PP), x ∈ mrg A R ↔ x ∈ A ∨ x ∈ R
  | [], R, x => by simp [mrg]
  | p :: A, R, x => by
    rw [mrg, List.mem_append, List.mem_cons, mrg_mem A _ x, List.mem_cons]
    have e : x ∈ R ↔ x ∈ R.takeWhile (lt1 p) ∨ x ∈ R.dropWhile (lt1 p) := by
      rw [← List.mem_append, List.takeWhile_append_dropWhile]
    rw [e]
    constructor
    · rintro (h | h | h | h)
      · exact .inr (.inl h)
      · exact .inl (.inl h)
      · exact .inl (.inr h)
      · exact .inr (.inr h)
    · rintro ((h | h) | (h | h))
      · exact .inr (.inl h)
      · exact .inr (.inr (.inl h))
      · exact .inl h
      · exact .inr (.inr (.inr h))
theorem mrg_len : ∀ (A R : List PP), (mrg A R).length = A.length + R.length
  | [], R => by simp [mrg]
  | p :: A, R => by
    rw [mrg, List.length_append, List.length_cons, mrg_len A, List.length_cons]
    have : (R.takeWhile (lt1 p) ++ R.dropWhile (lt1 p)).length = R.length := by rw [List.takeWhile_append_dropWhile]
    rw [List.length_append] at this
    omega
theorem drop_ge (p : PP) : ∀ (R : List PP), Srt R → ∀ q ∈ R.dropWhile (lt1 p), p.1 ≤ q.1
  | [], _, q, hq => nomatch hq
  | r :: R, h, q, hq => by
    rw [List.dropWhile_cons] at hq
    split at hq
    · exact drop_ge p R (List.pairwise_cons.mp h).2 q hq
    · rename_i k
      unfold lt1 at k
      rw [decide_eq_true_eq] at k
      rcases List.mem_cons.mp hq with rfl | hq
      · omega
      · have := (List.pairwise_cons.mp h).1 q hq
        omega
theorem take_lt (p : PP) : ∀ (R : List PP), ∀ q ∈ R.takeWhile (lt1 p), q.1 < p.1
  | [], q, hq => nomatch hq
  | r :: R, q, hq => by
    rw [List.takeWhile_cons] at hq
    split at hq
    · rename_i k
      rcases List.mem_cons.mp hq with rfl | hq
      · exact of_decide_eq_true k
      · exact take_lt p R q hq
    · exact nomatch hq
theorem mrg_srt : ∀ (A R : List PP), Srt A → Srt R → Srt (mrg A R)
  | [], R, _, h => by simpa [mrg] using h
  | p :: A, R, ha, hr => by
    rw [mrg]
    have hd : Srt (R.dropWhile (lt1 p)) := List.Pairwise.sublist (List.dropWhile_sublist _) hr
    have ht : Srt (R.takeWhile (lt1 p)) := List.Pairwise.sublist (List.takeWhile_sublist _) hr
    have ge : ∀ x ∈ mrg A (R.dropWhile (lt1 p)), p.1 ≤ x.1 := fun x hx => by
      rcases (mrg_mem A _ x).mp hx with k | k
      · exact (List.pairwise_cons.mp ha).1 x k
      · exact drop_ge p R hr x k
    refine List.pairwise_append.mpr ⟨ht, List.pairwise_cons.mpr ⟨ge, mrg_srt A _ (List.pairwise_cons.mp ha).2 hd⟩, fun a h1 b h2 => ?_⟩
    have := take_lt p R a h1
    rcases List.mem_cons.mp h2 with rfl | h2
    · omega
    · have := ge b h2
      omega
theorem srt_mem : ∀ (k : Nat) (P : List PP) (x : PP), x ∈ srt k P ↔ x ∈ P
  | 0, P, x => Iff.rfl
  | k + 1, P, x => by
    rw [srt]
    split
    · exact Iff.rfl
    · rw [mrg_mem, srt_mem k, srt_mem k, ← List.mem_append, List.take_append_drop]
theorem srt_len : ∀ (k : Nat) (P : List PP), (srt k P).length = P.length
  | 0, P => rfl
  | k + 1, P => by
    rw [srt]
    split
    · rfl
    · rw [mrg_len, srt_len k, srt_len k, List.length_take, List.length_drop]
      omega
theorem srt_srt : ∀ (k : Nat) (P : List PP), P.length ≤ 2 ^ k → Srt (srt k P)
  | 0, [], _ => List.Pairwise.nil
  | 0, [p], _ => List.pairwise_singleton _ _
  | 0, _ :: _ :: _, h => by simp at h
  | k + 1, P, h => by
    rw [srt]
    split
    · rename_i w
      match P, w with
      | [], _ => exact List.Pairwise.nil
      | [p], _ => exact List.pairwise_singleton _ _
      | _ :: _ :: _, w => simp at w; omega
    · rw [Nat.pow_succ] at h
      exact mrg_srt _ _ (srt_srt k _ (by rw [List.length_take]; omega)) (srt_srt k _ (by rw [List.length_drop]; omega))
/-! put together -/
def tld1 (F : List PP) (p : PP) : List PP := match F.getLast? with
  | none => [p]
  | some q => if p.1 ≤ q.2 + 1 then (if q.2 < p.2 then F.dropLast ++ [(q.1, p.2)] else F) else F ++ [p]
structure Tld (F : List PP) (P : List PP) : Prop where
  cn : Canon F
  cov : ∀ j, Cov F j ↔ Cov P j
  st : ∀ q ∈ F, ∃ p ∈ P, q.1 = p.1
theorem tld_step {F P : List PP} {p : PP} (h : Tld F P) (hp : p.1 ≤ p.2) (hs : ∀ q ∈ P, q.1 ≤ p.1) : Tld (tld1 F p) (P ++ [p]) := by
  have fs : ∀ q ∈ F, q.1 ≤ p.1 := fun q hq => by
    obtain ⟨r, h1, h2⟩ := h.st q hq
    have := hs r h1
    omega
  have st' : ∀ q ∈ F, ∃ r ∈ P ++ [p], q.1 = r.1 := fun q hq => by
    obtain ⟨r, h1, h2⟩ := h.st q hq
    exact ⟨r, List.mem_append.mpr (.inl h1), h2⟩
  unfold tld1
  split
  · rename_i e
    rw [List.getLast?_eq_none_iff] at e
    subst e
    refine ⟨⟨List.pairwise_singleton _ _, fun q hq => by rw [List.mem_singleton] at hq; subst hq; exact hp⟩, fun j => ?_, fun q hq => ?_⟩
    · rw [cov_app, cov_one, ← h.cov j]
      exact ⟨fun k => .inr k, fun k => k.elim (fun w => absurd w cov_nil) id⟩
    · rw [List.mem_singleton] at hq
      subst hq
      exact ⟨q, by simp, rfl⟩
  · rename_i q e
    obtain ⟨F', rfl⟩ := List.getLast?_eq_some_iff.mp e
    have hF := List.pairwise_append.mp h.cn.pw
    have qm : q ∈ F' ++ [q] := by simp
    have qp := fs q qm
    have ql := h.cn.le q qm
    split
    · rename_i re
      split
      · rename_i sh
        rw [List.dropLast_concat]
        have c' : Canon F' := ⟨hF.1, fun x hx => h.cn.le x (List.mem_append.mpr (.inl hx))⟩
        refine ⟨c'.app (by simp only; omega) fun x hx => hF.2.2 x hx q (by simp), fun j => ?_, fun x hx => ?_⟩
        · rw [cov_app, cov_one, cov_app, cov_one, ← h.cov j, cov_app, cov_one]
          constructor
          · rintro (k | ⟨k1, k2⟩)
            · exact .inl (.inl k)
            · simp only at k1 k2
              by_cases w : j ≤ q.2
              · exact .inl (.inr ⟨k1, w⟩)
              · exact .inr ⟨by omega, k2⟩
          · rintro ((k | ⟨k1, k2⟩) | ⟨k1, k2⟩)
            · exact .inl k
            · exact .inr ⟨k1, by simp only; omega⟩
            · exact .inr ⟨by simp only; omega, k2⟩
        · rcases List.mem_append.mp hx with k | k
          · exact st' x (List.mem_append.mpr (.inl k))
          · rw [List.mem_singleton] at k
            subst k
            exact st' q qm
      · rename_i sh
        refine ⟨h.cn, fun j => ?_, st'⟩
        refine Iff.trans ?_ (cov_app (P := P) (R := [p])).symm
        refine Iff.trans ?_ (or_congr (h.cov j) (cov_one (p := p) (j := j)).symm)
        constructor
        · exact .inl
        · rintro (k | ⟨k1, k2⟩)
          · exact k
          · exact cov_app.mpr (.inr (cov_one.mpr ⟨by omega, by omega⟩))
    · rename_i re
      refine ⟨h.cn.app hp fun x hx => ?_, fun j => ?_, fun x hx => ?_⟩
      · rcases List.mem_append.mp hx with k | k
        · have := hF.2.2 x k q (by simp)
          omega
        · rw [List.mem_singleton] at k
          subst k
          omega
      · exact (cov_app.trans (or_congr (h.cov j) Iff.rfl)).trans cov_app.symm
      · rcases List.mem_append.mp hx with k | k
        · exact st' x k
        · rw [List.mem_singleton] at k
          subst k
          exact ⟨x, by simp, rfl⟩
theorem tld_fold : ∀ (S F P : List PP), Tld F P → (∀ p ∈ S, p.1 ≤ p.2) → Srt S → (∀ q ∈ P, ∀ p ∈ S, q.1 ≤ p.1) → Tld (S.foldl tld1 F) (P ++ S)
  | [], F, P, h, _, _, _ => by simpa using h
  | p :: S, F, P, h, h1, h2, h3 => by
    have := tld_fold S (tld1 F p) (P ++ [p]) (tld_step h (h1 p (List.mem_cons_self ..)) fun q hq => h3 q hq p (List.mem_cons_self ..)) (fun q hq => h1 q (List.mem_cons_of_mem _ hq)) (List.pairwise_cons.mp h2).2 fun q hq r hr => by
      rcases List.mem_append.mp hq with k | k
      · exact h3 q k r (List.mem_cons_of_mem _ hr)
      · rw [List.mem_singleton] at k
        subst k
        exact (List.pairwise_cons.mp h2).1 r hr
    simpa using this
theorem ex_set (P : List PP) (hP : ∀ p ∈ P, p.1 ≤ p.2) (hl : P.length ≤ 1000) : ∃ R, Canon R ∧ ∀ j, Cov R j ↔ Cov P j := by
  have k := tld_fold (srt 10 P) [] [] ⟨Canon.nil, fun j => Iff.rfl, fun q hq => nomatch hq⟩ (fun p hp => hP p ((srt_mem 10 P p).mp hp)) (srt_srt 10 P (by omega)) (fun q hq => nomatch hq)
  exact ⟨_, k.cn, fun j => (k.cov j).trans (cov_mem (srt_mem 10 P) j)⟩
end LW

namespace LW
open PySem PySem.Spec PyProof.Rows L2 DL
theorem mem_fr {G : List (Int × Int)} (g : Grid G) (i : Nat) : Fr (gt G i) (10 ^ 12) := ⟨g.n0 i, g.d1 i, by have := g.le i; have := g.d9 i; omega, g.d9 i, g.g i⟩
theorem rgF_ok {G : List (Int × Int)} (g : Grid G) (p : Int × Int) (h0 : 0 ≤ p.1) (h1 : p.1 ≤ p.2) (h2 : p.2 ≤ 2 * G.length - 3) : (rgF G p).ok := by
  have f1 := mem_fr g ((p.1 + 1) / 2).toNat
  have f2 := mem_fr g (p.2 / 2 + 1).toNat
  refine ⟨f1.bad, f2.bad, f1.n0, fun k => ?_, ?_⟩
  · obtain ⟨k1, k2⟩ := k
    have k1 : (gt G ((p.1 + 1) / 2).toNat).1 = 0 := k1
    have k2 : p.1 % 2 = 1 := of_decide_eq_true k2
    have := g.asc 0 ((p.1 + 1) / 2).toNat (by omega) (by omega)
    rw [g.first, k1] at this
    have := g.d1 ((p.1 + 1) / 2).toNat
    simp at *
  · by_cases e : (p.1 + 1) / 2 = p.2 / 2 + 1
    · right
      refine ⟨by unfold rgF; simp only; rw [e], ?_, ?_⟩
      · show decide (p.1 % 2 = 1) = true
        rw [decide_eq_true_eq]
        omega
      · show decide (p.2 % 2 = 1) = true
        rw [decide_eq_true_eq]
        omega
    · left
      exact g.asc _ _ (by omega) (by omega)
theorem Fr.smm {p : Int × Int} {m : Int} (h : Fr p m) (hm : m ≤ 10 ^ 18) : sm p := by
  have h1 := h.n0
  have h2 := h.d1
  have h3 := h.n9
  have h4 := h.d9
  exact ⟨by omega, by omega⟩
theorem w_is_range (s : Pc) (hs : s.Sm) (Q : D → Int → Prop) (X : Er → Int → Prop) (z : Int) (h1 : s.ok → s.hi.1 ≤ s.hi.2 → Q (.bl true) z) (h0 : ¬ (s.ok ∧ s.hi.1 ≤ s.hi.2) → Q (.bl false) z) : m_is_range [s.D] Q X z := by
  rw [me_is_range]
  simp [s_is_range]
  refine w_is_stretch s hs _ _ z (fun k => ?_) (fun k => ?_)
  · simp [Pc.D, prD]
    by_cases q : s.hi.1 ≤ s.hi.2
    · rw [decide_eq_true q]; exact h1 k q
    · rw [decide_eq_false q]; exact h0 fun w => q w.2
  · simp
    exact h0 fun w => k w.1
theorem l_check (x : Sl) : ∀ (ss : List Pc) (t : Sl) (Q : Fl → Rho → Int → Prop) (X : Er → Rho → Int → Prop) (z : Int), (∀ s ∈ ss, s.Sm ∧ s.ok ∧ s.hi.1 ≤ s.hi.2) → (∀ t, Q .nx [x, t] z) → forL (gN 1) p0_check_ranges (ss.map Pc.D) [x, t] Q X z := by
  intro ss
  induction ss with
  | nil => intro t Q X z _ hq; exact hq t
  | cons s ss ih =>
    intro t Q X z hs hq
    simp only [List.map_cons, forL_cons, gN_a, List.set_cons_zero, List.set_cons_succ]
    rw [p0_check_ranges]
    obtain ⟨h1, h2, h3⟩ := hs s (List.mem_cons_self ..)
    simp
    refine w_is_range s h1 _ _ z (fun _ _ => ?_) fun k => absurd ⟨h2, h3⟩ k
    simp
    exact ih _ _ _ z (fun s hs' => hs s (List.mem_cons_of_mem _ hs')) hq
theorem w_check_ranges (ss : List Pc) (hs : ∀ s ∈ ss, s.Sm ∧ s.ok ∧ s.hi.1 ≤ s.hi.2) (Q : D → Int → Prop) (X : Er → Int → Prop) (z : Int) (h : Q .non z) : m_check_ranges [.lst (ss.map Pc.D)] Q X z := by
  rw [me_check_ranges]
  simp [s_check_ranges]
  exact l_check _ ss _ _ _ z hs fun t => by simpa using h
theorem goodP {G : List (Int × Int)} (g : Grid G) {P : List (Int × Int)} (hP : Lot P (2 * G.length - 3)) : ∀ s ∈ P.map (rgF G), s.Sm ∧ s.ok ∧ s.hi.1 ≤ s.hi.2 := fun s hs => by
  obtain ⟨p, hp, rfl⟩ := List.mem_map.mp hs
  have k := rgF_ok g p (hP.lo p hp) (hP.le p hp) (hP.hi p hp)
  exact ⟨⟨(mem_fr g _).smm (by omega), (mem_fr g _).smm (by omega)⟩, k, g.le _⟩
def hd (G P : List (Int × Int)) : List D := (P.map (rgF G)).map Pc.D
theorem pcs_py : ∀ ss : List Pc, isPyL (ss.map Pc.D) = true ∧ PyData.canLayAll0 (pyL (ss.map Pc.D)) = true ∧ PyData.depthAll (pyL (ss.map Pc.D)) ≤ 10
  | [] => ⟨rfl, rfl, by simp [pyL, PyData.depthAll]⟩
  | s :: ss => by
    obtain ⟨h1, h2, h3⟩ := pcs_py ss
    obtain ⟨⟨a, b⟩, li, ⟨c, d⟩, hf⟩ := s
    refine ⟨?_, ?_, ?_⟩
    · simp [isPyL, h1, Pc.D, prD, D.isPy]
    · simp [pyL, D.py, PyData.canLayAll0, PyData.canLay0, h2, Pc.D, prD]
    · simp [pyL, D.py, PyData.depthAll, PyData.depth, Pc.D, prD]
      omega
theorem pcs_eq (ss : List Pc) (Q : Bool → Prop) (h : Q true) : dEqG (.lst (ss.map Pc.D)) (.lst (ss.map Pc.D)) Q := by
  obtain ⟨h1, h2, h3⟩ := pcs_py ss
  have c : (D.lst (ss.map Pc.D)).py.canLay0 = true := h2
  have d : (D.lst (ss.map Pc.D)).py.depth ≤ 64 := by
    show PyData.depth (.list (pyL (ss.map Pc.D))) ≤ 64
    simp [PyData.depth]
    omega
  have sh : SeqAt.shaped (D.lst (ss.map Pc.D)).py = true := by
    unfold SeqAt.shaped
    rw [c, decide_eq_true d]
    rfl
  refine ⟨⟨h1, h1, sh, sh⟩, ?_⟩
  rw [SeqAt.eqv_refl _ c]
  exact h
end LW

namespace LW
open PySem PySem.Spec PyProof.Rows L2 DL
structure Vp (L : Int) (p : PP) : Prop where
  lo : 0 ≤ p.1
  le : p.1 ≤ p.2
  hi : p.2 ≤ L
theorem Lot.vp {P : List PP} {L : Int} (h : Lot P L) {p : PP} (hp : p ∈ P) : Vp L p := ⟨h.lo p hp, h.le p hp, h.hi p hp⟩
theorem lot_of {P : List PP} {L : Int} (h : ∀ p ∈ P, Vp L p) : Lot P L := ⟨fun p hp => (h p hp).lo, fun p hp => (h p hp).le, fun p hp => (h p hp).hi⟩
theorem gord {G : List (Int × Int)} (g : Grid G) (i j : Nat) (hi : i < G.length) (hj : j < G.length) : (0 < ordF (gt G i) (gt G j) ↔ j < i) ∧ (ordF (gt G i) (gt G j) = 0 ↔ i = j) ∧ (ordF (gt G i) (gt G j) < 0 ↔ i < j) := by
  unfold ordF
  rcases Nat.lt_trichotomy i j with u | u | u
  · have := g.asc i j u hj
    rw [if_neg (by omega), if_pos this]
    exact ⟨⟨fun k => by omega, fun k => by omega⟩, ⟨fun k => by omega, fun k => by omega⟩, ⟨fun _ => u, fun _ => by omega⟩⟩
  · subst u
    rw [if_pos rfl]
    exact ⟨⟨fun k => by omega, fun k => by omega⟩, ⟨fun _ => rfl, fun _ => rfl⟩, ⟨fun k => by omega, fun k => by omega⟩⟩
  · have := g.asc j i u hi
    rw [if_neg (by omega), if_neg (by omega)]
    exact ⟨⟨fun _ => u, fun _ => by omega⟩, ⟨fun k => by omega, fun k => by omega⟩, ⟨fun k => by omega, fun k => by omega⟩⟩
def rgD (G : List (Int × Int)) (p : PP) : D := (rgF G p).D
theorem rgF_sm {G : List (Int × Int)} (g : Grid G) (p : PP) : (rgF G p).Sm := ⟨(mem_fr g _).smm (by omega), (mem_fr g _).smm (by omega)⟩
section
variable {G : List (Int × Int)} (g : Grid G) {p q : PP} (hp : Vp (2 * G.length - 3) p) (hq : Vp (2 * G.length - 3) q) (Q : D → Int → Prop) (X : Er → Int → Prop) (z : Int)
include g hp hq
theorem w_starts_later (h : Q (.bl (lt1 p q)) z) : m_starts_later [rgD G p, rgD G q] Q X z := by
  rw [me_starts_later]
  have s1 := rgF_sm g p
  have s2 := rgF_sm g q
  have o := gord g ((p.1 + 1) / 2).toNat ((q.1 + 1) / 2).toNat (by have := hp.lo; have := hp.le; have := hp.hi; omega) (by have := hq.lo; have := hq.le; have := hq.hi; omega)
  have a0 := hp.lo
  have b0 := hq.lo
  simp [s_starts_later, rgD, rgF, Pc.D, prD]
  refine w_fraction_order _ _ _ _ _ _ z s1.1 s2.1 ?_
  obtain ⟨o1, o2, o3⟩ := o
  unfold lt1 at h
  generalize ordF _ _ = c at o1 o2 o3 ⊢
  simp
  have tr : q.1 < p.1 → Q (.bl true) z := fun k => by rwa [decide_eq_true k] at h
  have fa : ¬ q.1 < p.1 → Q (.bl false) z := fun k => by rwa [decide_eq_false k] at h
  refine ⟨fun k => tr (by omega), fun k => ⟨fun k2 => ⟨fun k3 => ?_, fun k3 => fa (by omega)⟩, fun k2 => fa (by omega)⟩⟩
  by_cases w : p.1 % 2 = 1
  · simp [w]; exact fa (by omega)
  · simp [w]; exact tr (by omega)
/-- p reaches the later q -/
theorem w_set_reaches (h : Q (.bl (decide (q.1 ≤ p.2 + 1))) z) : m_set_reaches [rgD G p, rgD G q] Q X z := by
  rw [me_set_reaches]
  have s1 := rgF_sm g p
  have s2 := rgF_sm g q
  have o := gord g ((q.1 + 1) / 2).toNat (p.2 / 2 + 1).toNat (by have := hq.lo; have := hq.le; have := hq.hi; omega) (by have := hp.lo; have := hp.le; have := hp.hi; omega)
  have a0 := hp.lo
  have a1 := hp.le
  have b0 := hq.lo
  simp [s_set_reaches, rgD, rgF, Pc.D, prD]
  refine w_fraction_order _ _ _ _ _ _ z s2.1 s1.2 ?_
  obtain ⟨o1, o2, o3⟩ := o
  generalize ordF _ _ = c at o1 o2 o3 ⊢
  simp
  have tr : q.1 ≤ p.2 + 1 → Q (.bl true) z := fun k => by rwa [decide_eq_true k] at h
  have fa : ¬ q.1 ≤ p.2 + 1 → Q (.bl false) z := fun k => by rwa [decide_eq_false k] at h
  refine ⟨fun k => tr (by omega), fun k => ⟨fun k2 => ⟨fun k3 => tr (by omega), fun k3 => ?_⟩, fun k2 => fa (by omega)⟩⟩
  by_cases w : p.2 % 2 = 1
  · simp [w]; exact tr (by omega)
  · simp [w]; exact fa (by omega)
theorem w_ends_order (h : ∀ c : Int, (c < 0 ↔ p.2 < q.2) → (c = 0 ↔ p.2 = q.2) → Q (.int c) z) : m_ends_order [rgD G p, rgD G q] Q X z := by
  rw [me_ends_order]
  have s1 := rgF_sm g p
  have s2 := rgF_sm g q
  have o := gord g (p.2 / 2 + 1).toNat (q.2 / 2 + 1).toNat (by have := hp.lo; have := hp.le; have := hp.hi; omega) (by have := hq.lo; have := hq.le; have := hq.hi; omega)
  have a0 := hp.lo
  have a1 := hp.le
  have b0 := hq.lo
  have b1 := hq.le
  simp [s_ends_order, rgD, rgF, Pc.D, prD]
  refine w_fraction_order _ _ _ _ _ _ z s1.2 s2.2 ?_
  obtain ⟨o1, o2, o3⟩ := o
  generalize ordF _ _ = c at o1 o2 o3 ⊢
  simp
  refine ⟨fun k => h c ?_ ?_, fun k => h _ ?_ ?_⟩
  · omega
  · omega
  · split <;> split <;> omega
  · split <;> split <;> omega
end
theorem cutD_take (ds : List D) (m : Nat) : DL.cutD ds none (some (m : Int)) = ds.take m := by
  unfold DL.cutD
  rw [HT.sIx_none, HT.sIx_nat]
  simp [List.take_eq_take_iff]
theorem cutD_drop (ds : List D) (m : Nat) : DL.cutD ds (some (m : Int)) none = ds.drop m := by
  unfold DL.cutD
  rw [HT.sIx_none, HT.sIx_nat]
  by_cases h : m ≤ ds.length
  · rw [Nat.min_eq_left h]
    exact List.take_of_length_le (by rw [List.length_drop]; omega)
  · rw [Nat.min_eq_right (by omega), List.drop_eq_nil_of_le (show ds.length ≤ m by omega)]
    simp
def rowD (G : List (Int × Int)) (p : PP) : D := .tup [rgD G p]
def rws (G : List (Int × Int)) (P : List PP) : List D := P.map (rowD G)
theorem rws_app (G : List (Int × Int)) (A B : List PP) : rws G (A ++ B) = rws G A ++ rws G B := List.map_append ..
theorem atI_mid (G : List (Int × Int)) (A B : List PP) (q : PP) : L2.atI (rws G (A ++ q :: B)) (A.length : Int) = some (rowD G q) := by
  have hk : A.length < (rws G (A ++ q :: B)).length := by simp [rws]
  rw [atI_nat _ _ hk]
  have e : (rws G (A ++ q :: B))[A.length]? = some (rowD G q) := by
    unfold rws
    rw [List.getElem?_map]
    simp
  rw [List.getElem?_eq_getElem hk] at e
  exact e
section
variable {G : List (Int × Int)} (g : Grid G) (mrec : List D → E0 (List D)) (t0 t1 t3 : Sl)
include g
theorem l_while {p : PP} (hp : Vp (2 * G.length - 3) p) : ∀ (B A F : List PP) (n : Nat) (Q : Fl → Rho → Int → Prop) (X : Er → Rho → Int → Prop) (z : Int), B.length < n → (∀ q ∈ B, Vp (2 * G.length - 3) q) → F.length + B.length ≤ 10000 →
    Q .nx [t0, t1, Sl.fr (rowD G p), t3, Sl.fr (.lst (rws G (A ++ B))), Sl.own (rws G (F ++ B.takeWhile (lt1 p))), Sl.fr (.int ((A ++ B.takeWhile (lt1 p)).length : Nat))] z →
    whL (p0_rows_in_order mrec) (p1_rows_in_order mrec) n [t0, t1, Sl.fr (rowD G p), t3, Sl.fr (.lst (rws G (A ++ B))), Sl.own (rws G F), Sl.fr (.int (A.length : Nat))] Q X z := by
  intro B
  induction B with
  | nil =>
    intro A F n Q X z hn _ _ hq
    obtain ⟨m, rfl⟩ := Nat.exists_eq_succ_of_ne_zero (show n ≠ 0 by omega)
    rw [whL_succ, p0_rows_in_order]
    simp [rws] at hq ⊢
    exact hq
  | cons q B ih =>
    intro A F n Q X z hn hB hl hq
    obtain ⟨m, rfl⟩ := Nat.exists_eq_succ_of_ne_zero (show n ≠ 0 by omega)
    rw [whL_succ, p0_rows_in_order]
    have hl' : (A.length : Int) < (rws G (A ++ q :: B)).length := by simp [rws]; omega
    simp only [List.length_cons] at hn hl
    simp [hl']
    simp only [rowD]
    simp
    refine ⟨_, atI_mid G A B q, ?_⟩
    simp only [rowD]
    simp
    refine w_starts_later g hp (hB q (List.mem_cons_self ..)) _ _ z ?_
    by_cases w : lt1 p q = true
    · simp [w]
      rw [p1_rows_in_order]
      simp
      refine ⟨_, atI_mid G A B q, ⟨by simp [rws]; omega, ?_⟩⟩
      rw [List.takeWhile_cons, if_pos w] at hq
      have k := ih (A ++ [q]) (F ++ [q]) m Q X z (by omega) (fun q hq => hB q (List.mem_cons_of_mem _ hq)) (by simp; omega) (by simpa using hq)
      simp only [List.append_assoc, List.singleton_append] at k
      have e : rws G F ++ [rowD G q] = rws G (F ++ [q]) := by simp [rws]
      rw [e]
      simpa [rowD] using k
    · have w2 : lt1 p q = false := by simpa using w
      simp [w2]
      rw [List.takeWhile_cons, if_neg w] at hq
      simpa [rowD] using hq
theorem l_rows : ∀ (L A B F : List PP) (t2 : Sl) (Q : Fl → Rho → Int → Prop) (X : Er → Rho → Int → Prop) (z : Int), (∀ p ∈ L, Vp (2 * G.length - 3) p) → (∀ q ∈ B, Vp (2 * G.length - 3) q) → F.length + L.length + B.length ≤ 10000 →
    (∀ A' B' F' t2, A' ++ B' = A ++ B → F' ++ B' = F ++ mrg L B → Q .nx [t0, t1, t2, t3, Sl.fr (.lst (rws G (A ++ B))), Sl.own (rws G F'), Sl.fr (.int (A'.length : Nat))] z) →
    forL (gN 2) (p2_rows_in_order mrec) (rws G L) [t0, t1, t2, t3, Sl.fr (.lst (rws G (A ++ B))), Sl.own (rws G F), Sl.fr (.int (A.length : Nat))] Q X z := by
  intro L
  induction L with
  | nil => intro A B F t2 Q X z _ _ _ hq; exact hq A B F t2 rfl (by simp [mrg])
  | cons p L ih =>
    intro A B F t2 Q X z hL hB hl hq
    simp only [List.length_cons] at hl
    rw [show rws G (p :: L) = rowD G p :: rws G L from rfl]
    simp only [forL_cons, gN_a, List.set_cons_zero, List.set_cons_succ]
    rw [p2_rows_in_order]
    simp
    rw [sWhile_a]
    refine ⟨B.length + 1, ?_⟩
    refine l_while g mrec t0 t1 t3 (hL p (List.mem_cons_self ..)) B A F (B.length + 1) _ _ z (by omega) hB (by omega) ?_
    have sp : B.takeWhile (lt1 p) ++ B.dropWhile (lt1 p) = B := List.takeWhile_append_dropWhile
    have lsp : (B.takeWhile (lt1 p)).length + (B.dropWhile (lt1 p)).length = B.length := by rw [← List.length_append, sp]
    have hlen : (F ++ B.takeWhile (lt1 p) ++ [p]).length + L.length + (B.dropWhile (lt1 p)).length ≤ 10000 := by
      simp only [List.length_append, List.length_cons, List.length_nil]
      omega
    simp
    refine ⟨by simp [rws]; omega, ?_⟩
    have k := ih (A ++ B.takeWhile (lt1 p)) (B.dropWhile (lt1 p)) (F ++ B.takeWhile (lt1 p) ++ [p]) (Sl.fr (rowD G p)) Q X z (fun p hp => hL p (List.mem_cons_of_mem _ hp)) (fun q hq => hB q ((List.dropWhile_sublist _).subset hq)) hlen (fun A' B' F' t2 e1 e2 => by
      have e3 : A' ++ B' = A ++ B := by rw [e1, List.append_assoc, sp]
      have := hq A' B' F' t2 e3 (by rw [e2, mrg]; simp)
      simpa [List.append_assoc, sp] using this)
    have e1 : rws G (F ++ B.takeWhile (lt1 p) ++ [p]) = rws G (F ++ B.takeWhile (lt1 p)) ++ [rowD G p] := rws_app ..
    have e2 : A ++ B.takeWhile (lt1 p) ++ B.dropWhile (lt1 p) = A ++ B := by rw [List.append_assoc, sp]
    have e3 : ((A ++ B.takeWhile (lt1 p)).length : Int) = A.length + (B.takeWhile (lt1 p)).length := by simp
    rw [e1, e2, e3] at k
    exact k
end
theorem w_mf_rows {G : List (Int × Int)} (g : Grid G) : ∀ (k : Nat) (P : List PP) (Q : List D → Int → Prop) (X : Er → Int → Prop) (z : Int), P.length ≤ 2 ^ k → P.length ≤ 1000 → (∀ p ∈ P, Vp (2 * G.length - 3) p) → Q (rws G (srt k P)) z → mf_rows_in_order (k + 1) [.lst (rws G P)] Q X z := by
  have len : ∀ P, (rws G P).length = P.length := fun P => by simp [rws]
  have small : ∀ (k : Nat) (P : List PP) (Q : List D → Int → Prop) (X : Er → Int → Prop) (z : Int), P.length < 2 → Q (rws G P) z → mf_rows_in_order (k + 1) [.lst (rws G P)] Q X z := fun k P Q X z h hq => by
    rw [me_rows_in_order]
    have h2 : (P.length : Int) < 2 := by omega
    simp [s_rows_in_order, len, h2]
    exact hq
  intro k
  induction k with
  | zero => intro P Q X z h _ _ hq; exact small 0 P Q X z (by simp at h; omega) hq
  | succ k ih =>
    intro P Q X z h h9 hP hq
    by_cases h2 : P.length < 2
    · rw [srt, if_pos h2] at hq
      exact small (k + 1) P Q X z h2 hq
    · rw [srt, if_neg h2] at hq
      rw [me_rows_in_order]
      have h3 : ¬ (P.length : Int) < 2 := by omega
      have e : (P.length : Int).fdiv 2 = ((P.length / 2 : Nat) : Int) := by rw [Int.fdiv_eq_ediv_of_nonneg _ (by omega)]; omega
      have l2 : Nat.log2 2 < 9000 := by decide +kernel
      rw [Nat.pow_succ] at h
      simp [s_rows_in_order, len, h3, e, l2]
      have e2 : (P.length : Int) / 2 = ((P.length / 2 : Nat) : Int) := by omega
      rw [e2, cutD_take, cutD_drop]
      have et : (rws G P).take (P.length / 2) = rws G (P.take (P.length / 2)) := by unfold rws; rw [List.map_take]
      have ed : (rws G P).drop (P.length / 2) = rws G (P.drop (P.length / 2)) := by unfold rws; rw [List.map_drop]
      rw [et, ed]
      have lt := List.length_take (i := P.length / 2) (l := P)
      have ld := List.length_drop (i := P.length / 2) (l := P)
      refine ih _ _ _ z (by omega) (by omega) (fun p hp => hP p (List.mem_of_mem_take hp)) ?_
      refine ih _ _ _ z (by omega) (by omega) (fun p hp => hP p (List.mem_of_mem_drop hp)) ?_
      have k := l_rows g (mf_rows_in_order (k + 1)) (Sl.fr (D.lst (rws G P))) (Sl.fr (D.int ((P.length / 2 : Nat) : Int))) (Sl.fr (.lst (rws G (srt k (P.take (P.length / 2)))))) (srt k (P.take (P.length / 2))) [] (srt k (P.drop (P.length / 2))) [] .no
        (fun fl ρ' z' => fSeq (sRetO (bC (ePk 5) (oP (eb (ePk 4) fun d => eb (eb (ePk 6) fPart) fun lo => eb (ep none) fun hi => fSlO d lo hi)))) fl ρ' (outO Q) (fun e x z => X e z) z') (fun e x z => X e z) z
        (fun p hp => hP p (List.mem_of_mem_take ((srt_mem _ _ _).mp hp))) (fun p hp => hP p (List.mem_of_mem_drop ((srt_mem _ _ _).mp hp))) (by rw [srt_len, srt_len]; simp; omega) (fun A' B' F' t2 e1 e3 => ?_)
      · exact k
      · simp only [List.nil_append] at e1 e3
        rw [← e1]
        simp
        have ec : DL.cutD (rws G (A' ++ B')) (some (A'.length : Int)) none = rws G B' := by
          rw [cutD_drop, rws_app]
          have : A'.length = (rws G A').length := by simp [rws]
          rw [this, List.drop_left]
        have el : F'.length + B'.length ≤ 1000 := by
          have e5 : (F' ++ B').length = (mrg (srt k (List.take (P.length / 2) P)) (srt k (List.drop (P.length / 2) P))).length := by rw [e3]
          rw [List.length_append, mrg_len, srt_len, srt_len] at e5
          omega
        rw [ec]
        refine ⟨by simp [rws]; omega, ?_⟩
        rw [← e3, rws_app] at hq
        exact hq
theorem w_rows {G : List (Int × Int)} (g : Grid G) (P : List PP) (Q : List D → Int → Prop) (X : Er → Int → Prop) (z : Int) (hl : P.length ≤ 1000) (hP : ∀ p ∈ P, Vp (2 * G.length - 3) p) (h : ∀ S : List PP, Srt S → (∀ p, p ∈ S ↔ p ∈ P) → S.length = P.length → Q (rws G S) z) : m_rows_in_order [.lst (rws G P)] Q X z :=
  ⟨11, by omega, w_mf_rows g 10 P Q X z (by omega) hl hP (h _ (srt_srt 10 P (by omega)) (srt_mem 10 P) (srt_len 10 P))⟩
def hg (G : List (Int × Int)) (P : List PP) : List D := P.map (rgD G)
theorem hg_pcs (G : List (Int × Int)) (P : List PP) : hg G P = (P.map (rgF G)).map Pc.D := by simp [hg, rgD]
theorem hg_app (G : List (Int × Int)) (A B : List PP) : hg G (A ++ B) = hg G A ++ hg G B := List.map_append ..
theorem hg_nil_eq (G : List (Int × Int)) (F : List PP) (Q : Bool → Prop) (h : Q (decide (F = []))) : dEqG (.lst (hg G F)) (.lst []) Q := by
  obtain ⟨h1, h2, h3⟩ := pcs_py (F.map (rgF G))
  rw [← hg_pcs] at h1 h2 h3
  have c : (D.lst (hg G F)).py.canLay0 = true := h2
  have d : (D.lst (hg G F)).py.depth ≤ 64 := by
    show PyData.depth (.list (pyL (hg G F))) ≤ 64
    simp [PyData.depth]
    omega
  have sh : SeqAt.shaped (D.lst (hg G F)).py = true := by
    unfold SeqAt.shaped
    rw [c, decide_eq_true d]
    rfl
  refine ⟨⟨h1, rfl, sh, by decide⟩, ?_⟩
  cases F with
  | nil => simpa [hg, D.py, pyL, PyData.eqv, PyData.eqvAll] using h
  | cons p F => simpa [hg, D.py, pyL, PyData.eqv, PyData.eqvAll] using h
theorem rgD_q {G : List (Int × Int)} (r : PP) : rgD G r = .tup [prD (rgF G r).lo, .bl (rgF G r).li, prD (rgF G r).hi, .bl (rgF G r).hf] := rfl
theorem cut4a (a b c d : D) : DL.cutD [a, b, c, d] none (some 2) = [a, b] := rfl
theorem cut4b (a b c d : D) : DL.cutD [a, b, c, d] (some 2) none = [c, d] := rfl
theorem ixN_neg1 (n : Nat) (h : 0 < n) : L2.ixN n (-1) = some (n - 1) := by
  unfold L2.ixN
  rw [if_neg (by omega), if_pos (by omega)]
  congr 1
  omega
section
variable {G : List (Int × Int)} (g : Grid G) (t0 : Sl)
include g
theorem t_told (F : List PP) (p : PP) (hF : ∀ q ∈ F, Vp (2 * G.length - 3) q) (hp : Vp (2 * G.length - 3) p) (hl : F.length ≤ 10000) (t3 : Sl) (Q : Fl → Rho → Int → Prop) (X : Er → Rho → Int → Prop) (z : Int)
    (h : Q .nx [t0, Sl.own (hg G (tld1 F p)), Sl.fr (rowD G p), Sl.fr (rgD G p), .no] z) : p1_told_set [t0, Sl.own (hg G F), Sl.fr (rowD G p), t3, .no] Q X z := by
  rw [p1_told_set]
  simp [rowD] at h ⊢
  have app : Q .nx [t0, Sl.own (hg G (F ++ [p])), Sl.fr (.tup [rgD G p]), Sl.fr (rgD G p), .no] z → (hg G F).length < 16777216 ∧ Q .nx [t0, Sl.own (hg G F ++ [rgD G p]), Sl.fr (.tup [rgD G p]), Sl.fr (rgD G p), .no] z := fun k => by
    rw [hg_app] at k
    exact ⟨by simp [hg]; omega, k⟩
  refine hg_nil_eq G F _ ?_
  unfold tld1 at h
  cases hF0 : F.getLast? with
  | none =>
    rw [hF0] at h
    rw [List.getLast?_eq_none_iff] at hF0
    subst hF0
    simp
    exact app h
  | some q =>
    rw [hF0] at h
    simp only at h
    obtain ⟨F', rfl⟩ := List.getLast?_eq_some_iff.mp hF0
    have n0 : ¬ F' ++ [q] = [] := by simp
    have gl : (hg G (F' ++ [q])).getLast? = some (rgD G q) := by rw [hg_app]; simp [hg]
    have vq := hF q (by simp)
    simp only [n0, decide_false, gl]
    simp
    refine w_set_reaches g vq hp _ _ z ?_
    by_cases re : p.1 ≤ q.2 + 1
    · rw [if_pos re] at h
      simp [re]
      refine w_ends_order g vq hp _ _ z fun c c1 c2 => ?_
      by_cases sh : q.2 < p.2
      · rw [if_pos sh] at h
        have c0 : c < 0 := c1.mpr sh
        simp [c0, gl]
        rw [rgD_q q]
        simp [cut4a]
        rw [rgD_q p]
        simp [cut4b]
        refine ⟨_, ixN_neg1 _ (by simp [hg]), ?_⟩
        have e5 : (hg G (F' ++ [q])).set ((hg G (F' ++ [q])).length - 1) (.tup [prD (rgF G q).lo, .bl (rgF G q).li, prD (rgF G p).hi, .bl (rgF G p).hf]) = hg G ((F' ++ [q]).dropLast ++ [(q.1, p.2)]) := by
          rw [List.dropLast_concat, hg_app, hg_app]
          have l1 : (hg G F').length = F'.length := by simp [hg]
          have l2 : (hg G F' ++ hg G [q]).length - 1 = (hg G F').length := by simp [hg]
          rw [l2, List.set_append_right _ _ (Nat.le_refl _), Nat.sub_self]
          rfl
        rw [e5]
        rw [← rgD_q p]
        exact h
      · rw [if_neg sh] at h
        have c0 : ¬ c < 0 := fun k => sh (c1.mp k)
        simp [c0]
        exact h
    · rw [if_neg re] at h
      simp [re]
      exact app h
theorem l_told : ∀ (S F : List PP) (t2 t3 : Sl) (Q : Fl → Rho → Int → Prop) (X : Er → Rho → Int → Prop) (z : Int), (∀ q ∈ F, Vp (2 * G.length - 3) q) → (∀ p ∈ S, Vp (2 * G.length - 3) p) → F.length + S.length ≤ 10000 →
    (∀ t2 t3, Q .nx [t0, Sl.own (hg G (S.foldl tld1 F)), t2, t3, .no] z) → forL (gN 2) p1_told_set (rws G S) [t0, Sl.own (hg G F), t2, t3, .no] Q X z := by
  intro S
  induction S with
  | nil => intro F t2 t3 Q X z _ _ _ hq; exact hq t2 t3
  | cons p S ih =>
    intro F t2 t3 Q X z hF hS hl hq
    simp only [List.length_cons] at hl
    simp only [rws, List.map_cons, forL_cons, gN_a, List.set_cons_zero, List.set_cons_succ]
    have hp := hS p (List.mem_cons_self ..)
    refine t_told g t0 F p hF hp (by omega) t3 _ _ z ?_
    simp only [forK_1]
    have v : (∀ q ∈ tld1 F p, Vp (2 * G.length - 3) q) ∧ (tld1 F p).length ≤ F.length + 1 := by
      unfold tld1
      split
      · exact ⟨fun q hq => by rw [List.mem_singleton] at hq; subst hq; exact hp, by simp⟩
      · rename_i q e
        obtain ⟨F', rfl⟩ := List.getLast?_eq_some_iff.mp e
        have vq := hF q (by simp)
        split
        · split
          · rw [List.dropLast_concat]
            refine ⟨fun x hx => ?_, by simp⟩
            rcases List.mem_append.mp hx with k | k
            · exact hF x (List.mem_append.mpr (.inl k))
            · rw [List.mem_singleton] at k
              subst k
              exact ⟨vq.lo, by have := vq.le; simp only; omega, hp.hi⟩
          · exact ⟨hF, by omega⟩
        · refine ⟨fun x hx => ?_, by simp⟩
          rcases List.mem_append.mp hx with k | k
          · exact hF x k
          · rw [List.mem_singleton] at k
            subst k
            exact hp
    exact ih (tld1 F p) _ _ _ _ z v.1 (fun p hp => hS p (List.mem_cons_of_mem _ hp)) (by omega) hq
end
theorem w_told_set {G : List (Int × Int)} (g : Grid G) (P : List PP) (hl : P.length ≤ 1000) (hP : ∀ p ∈ P, Vp (2 * G.length - 3) p) (Q : List D → Int → Prop) (X : Er → Int → Prop) (z : Int) (h : ∀ R, Canon R → (∀ j, Cov R j ↔ Cov P j) → Q (hg G R) z) : m_told_set [.lst (hg G P)] Q X z := by
  rw [me_told_set]
  simp [s_told_set]
  refine lc_run (α := PP) 4 [Sl.fr (.lst (hg G P)), Sl.own [], .no, .no, .no] (rgD G) (rowD G) (fun d => rfl) _ z P [] _ _ (fun p hp Q' hq => ?_) (by simp; omega) ?_
  · rw [p0_told_set]
    simp
    exact hq
  · simp
    refine w_rows g P _ _ z hl hP fun S h1 h2 h3 => ?_
    refine l_told g _ S [] _ _ _ _ z (fun q hq => nomatch hq) (fun p hp => hP p ((h2 p).mp hp)) (by simp; omega) fun t2 t3 => ?_
    simp
    have k := tld_fold S [] [] ⟨Canon.nil, fun j => Iff.rfl, fun q hq => nomatch hq⟩ (fun p hp => (hP p ((h2 p).mp hp)).le) h1 (fun q hq => nomatch hq)
    refine h _ k.cn fun j => (k.cov j).trans ?_
    simp only [List.nil_append]
    exact cov_mem h2 j
theorem w_checked_set {G : List (Int × Int)} (g : Grid G) (P : List PP) (hl : P.length ≤ 1000) (hP : ∀ p ∈ P, Vp (2 * G.length - 3) p) (Q : List D → Int → Prop) (X : Er → Int → Prop) (z : Int) (h : ∀ R, Canon R → (∀ j, Cov R j ↔ Cov P j) → Q (hg G R) z) : m_checked_set [.lst (hg G P)] Q X z := by
  rw [me_checked_set]
  simp [s_checked_set]
  rw [hg_pcs]
  refine w_check_ranges _ (goodP g (lot_of hP)) _ _ z ?_
  rw [← hg_pcs]
  exact w_told_set g P hl hP _ _ z h
section
variable {G : List (Int × Int)}
theorem rg_eq (q : PP) : rgD G q = .tup [prD (gt G ((q.1 + 1) / 2).toNat), .bl (decide (q.1 % 2 = 1)), prD (gt G (q.2 / 2 + 1).toNat), .bl (decide (q.2 % 2 = 1))] := rfl
theorem rg_ix0 (q : PP) (Q : D → Prop) : dIx (rgD G q) (.int 0) Q = Q (prD (gt G ((q.1 + 1) / 2).toNat)) := by rw [rg_eq]; simp
theorem rg_ix1 (q : PP) (Q : D → Prop) : dIx (rgD G q) (.int 1) Q = Q (.bl (decide (q.1 % 2 = 1))) := by rw [rg_eq]; simp
theorem rg_ix2 (q : PP) (Q : D → Prop) : dIx (rgD G q) (.int 2) Q = Q (prD (gt G (q.2 / 2 + 1).toNat)) := by rw [rg_eq]; simp
theorem rg_ix3 (q : PP) (Q : D → Prop) : dIx (rgD G q) (.int 3) Q = Q (.bl (decide (q.2 % 2 = 1))) := by rw [rg_eq]; simp
theorem rg_nn (q : PP) (Q : D → Prop) : dNotN (rgD G q) .non Q = Q (.bl true) := by rw [rg_eq]; simp
theorem rg_isn (q : PP) (Q : D → Prop) : dIsN (rgD G q) .non Q = Q (.bl false) := by rw [rg_eq]; simp
end
end LW

namespace LW
open PySem PySem.Spec PyProof.Rows L2 DL
/-! a grid for any good ranges -/
def flt (p q : Int × Int) : Prop := p.1 * q.2 < q.1 * p.2
instance (p q : Int × Int) : Decidable (flt p q) := inferInstanceAs (Decidable (_ < _))
def insF (e : Int × Int) : List (Int × Int) → List (Int × Int)
  | [] => [e]
  | x :: G => if flt e x then e :: x :: G else if x = e then x :: G else x :: insF e G
structure Fo (x : Int × Int) : Prop where
  fr : Fr x (10 ^ 12)
  le : x.1 ≤ x.2
structure GP (G : List (Int × Int)) : Prop where
  pw : G.Pairwise flt
  all : ∀ x ∈ G, Fo x
  hd : G.head? = some (0, 1)
  la : G.getLast? = some (1, 1)
theorem insF_mem (e : Int × Int) : ∀ (G : List (Int × Int)) (y : Int × Int), y ∈ insF e G ↔ y = e ∨ y ∈ G
  | [], y => by simp [insF]
  | x :: G, y => by
    rw [insF]
    split
    · simp
    · split
      · rename_i h
        subst h
        simp
      · simp only [List.mem_cons, insF_mem e G y]
        constructor
        · rintro (h | h | h)
          · exact .inr (.inl h)
          · exact .inl h
          · exact .inr (.inr h)
        · rintro (h | h | h)
          · exact .inr (.inl h)
          · exact .inl h
          · exact .inr (.inr h)
theorem insF_len (e : Int × Int) : ∀ G : List (Int × Int), (insF e G).length ≤ G.length + 1 ∧ G.length ≤ (insF e G).length
  | [] => by simp [insF]
  | x :: G => by
    rw [insF]
    have := insF_len e G
    split
    · simp
    · split
      · simp
      · simp
        omega
theorem flt_tri {p q : Int × Int} (hp : Fo p) (hq : Fo q) (h1 : ¬ flt p q) (h2 : ¬ q = p) : flt q p := by
  unfold flt at h1 ⊢
  rcases Int.lt_trichotomy (p.1 * q.2) (q.1 * p.2) with u | u | u
  · exact absurd u h1
  · exact absurd (hp.fr.eq hq.fr u).symm h2
  · exact u
theorem flt_tr {p q r : Int × Int} (hp : Fo p) (hq : Fo q) (hr : Fo r) (h1 : flt p q) (h2 : flt q r) : flt p r := by
  have a := hp.fr.d1
  have b := hq.fr.d1
  have c := hr.fr.d1
  unfold flt at h1 h2 ⊢
  have k1 : p.1 * q.2 * r.2 < q.1 * p.2 * r.2 := Int.mul_lt_mul_of_pos_right h1 (by omega)
  have k2 : q.1 * r.2 * p.2 < r.1 * q.2 * p.2 := Int.mul_lt_mul_of_pos_right h2 (by omega)
  have e1 : p.1 * q.2 * r.2 = p.1 * r.2 * q.2 := by grind
  have e2 : q.1 * p.2 * r.2 = q.1 * r.2 * p.2 := by grind
  have e3 : r.1 * q.2 * p.2 = r.1 * p.2 * q.2 := by grind
  exact Int.lt_of_mul_lt_mul_right (a := q.2) (by omega) (by omega)
theorem insF_pw (e : Int × Int) (he : Fo e) : ∀ G : List (Int × Int), (∀ x ∈ G, Fo x) → G.Pairwise flt → (insF e G).Pairwise flt
  | [], _, _ => by simp [insF]
  | x :: G, ha, h => by
    have hx := ha x (List.mem_cons_self ..)
    obtain ⟨h1, h2⟩ := List.pairwise_cons.mp h
    rw [insF]
    split
    · rename_i k
      refine List.pairwise_cons.mpr ⟨fun y hy => ?_, h⟩
      rcases List.mem_cons.mp hy with rfl | hy
      · exact k
      · exact flt_tr he hx (ha y (List.mem_cons_of_mem _ hy)) k (h1 y hy)
    · rename_i k
      split
      · exact h
      · rename_i k2
        refine List.pairwise_cons.mpr ⟨fun y hy => ?_, insF_pw e he G (fun y hy => ha y (List.mem_cons_of_mem _ hy)) h2⟩
        rcases (insF_mem e G y).mp hy with rfl | hy
        · exact flt_tri he hx k k2
        · exact h1 y hy
theorem insF_last (e : Int × Int) (he : Fo e) : ∀ G : List (Int × Int), G.getLast? = some (1, 1) → (insF e G).getLast? = some (1, 1)
  | [], h => by simp at h
  | [x], h => by
    simp at h
    subst h
    rw [insF]
    split
    · rfl
    · rename_i k
      split
      · rfl
      · rename_i k2
        exfalso
        have o : Fo (1, 1) := ⟨⟨by decide, by decide, by decide, by decide, by decide⟩, by decide⟩
        have := flt_tri he o k k2
        unfold flt at this
        have := he.le
        simp at *
        omega
  | x :: y :: G, h => by
    rw [insF]
    split
    · simpa using h
    · split
      · exact h
      · have h' : (y :: G).getLast? = some (1, 1) := by simpa using h
        have := insF_last e he (y :: G) h'
        have ne : insF e (y :: G) ≠ [] := fun w => by rw [w] at this; simp at this
        obtain ⟨z, zs, hz⟩ := List.exists_cons_of_ne_nil ne
        rw [hz] at this ⊢
        simpa using this
theorem insF_gp {e : Int × Int} (he : Fo e) {G : List (Int × Int)} (g : GP G) : GP (insF e G) := by
  refine ⟨insF_pw e he G g.all g.pw, fun x hx => ?_, ?_, insF_last e he G g.la⟩
  · rcases (insF_mem e G x).mp hx with rfl | hx
    · exact he
    · exact g.all x hx
  · have hd := g.hd
    cases G with
    | nil => simp at hd
    | cons x G =>
      simp at hd
      subst hd
      rw [insF]
      have : ¬ flt e (0, 1) := fun w => by
        unfold flt at w
        have := he.fr.n0
        simp at w
        omega
      rw [if_neg this]
      split <;> rfl
theorem ex_gp : ∀ (E : List (Int × Int)), (∀ e ∈ E, Fo e) → ∃ G, GP G ∧ (∀ e ∈ E, e ∈ G) ∧ G.length ≤ E.length + 2
  | [], _ => ⟨[(0, 1), (1, 1)], ⟨by simp [flt], fun x hx => by
      simp at hx
      rcases hx with rfl | rfl <;> exact ⟨⟨by decide, by decide, by decide, by decide, by decide⟩, by decide⟩, rfl, rfl⟩, fun e he => (nomatch he), by simp⟩
  | e :: E, h => by
    obtain ⟨G, g1, g2, g3⟩ := ex_gp E fun x hx => h x (List.mem_cons_of_mem _ hx)
    have he := h e (List.mem_cons_self ..)
    refine ⟨insF e G, insF_gp he g1, fun x hx => (insF_mem e G x).mpr ?_, ?_⟩
    · rcases List.mem_cons.mp hx with rfl | hx
      · exact .inl rfl
      · exact .inr (g2 x hx)
    · have := (insF_len e G).1
      simp
      omega
theorem GP.grid {G : List (Int × Int)} (g : GP G) (hl : G.length ≤ 1000) : Grid G ∧ ∀ x ∈ G, ∃ i, i < G.length ∧ gt G i = x := by
  have gi : ∀ (i : Nat) (h : i < G.length), gt G i = G[i] := fun i h => by
    unfold gt
    rw [List.getD_eq_getElem?_getD, List.getElem?_eq_getElem h]
    rfl
  have go : ∀ i : Nat, ¬ i < G.length → gt G i = (1, 1) := fun i h => by
    unfold gt
    rw [List.getD_eq_getElem?_getD, List.getElem?_eq_none (by omega)]
    rfl
  have all : ∀ i, Fo (gt G i) := fun i => by
    by_cases h : i < G.length
    · rw [gi i h]; exact g.all _ (List.getElem_mem h)
    · rw [go i h]; exact ⟨⟨by decide, by decide, by decide, by decide, by decide⟩, by decide⟩
  have hd := g.hd
  have la := g.la
  have l2 : 2 ≤ G.length := by
    match G, hd, la with
    | [x], hd, la => simp at hd la; rw [hd] at la; simp at la
    | _ :: _ :: _, _, _ => simp
  refine ⟨⟨l2, hl, fun i => (all i).fr.n0, fun i => (all i).le, fun i => (all i).fr.d1, fun i => (all i).fr.d9, fun i => (all i).fr.g, fun i j hij hj => ?_, ?_, ?_⟩, fun x hx => ?_⟩
  · rw [gi i (by omega), gi j hj]
    exact List.pairwise_iff_getElem.mp g.pw i j (by omega) hj hij
  · rw [gi 0 (by omega)]
    rw [List.head?_eq_getElem?, List.getElem?_eq_getElem (by omega)] at hd
    exact Option.some.inj hd
  · rw [gi _ (by omega)]
    rw [List.getLast?_eq_getElem?, List.getElem?_eq_getElem (by omega)] at la
    exact Option.some.inj la
  · obtain ⟨i, hi, e⟩ := List.getElem_of_mem hx
    exact ⟨i, hi, by rw [gi i hi]; exact e⟩
end LW

namespace LW
open PySem PySem.Spec PyProof.Rows L2 DL
structure GoodPc (s : Pc) : Prop where
  ok : s.ok
  lo : Fo s.lo
  hi : Fo s.hi
theorem emb1 {G : List (Int × Int)} (g : Grid G) (s : Pc) (h : GoodPc s) (i j : Nat) (hi : i < G.length) (hj : j < G.length) (ei : gt G i = s.lo) (ej : gt G j = s.hi) : ∃ p : PP, (0 ≤ p.1 ∧ p.1 ≤ p.2 ∧ p.2 ≤ 2 * G.length - 3) ∧ rgF G p = s := by
  obtain ⟨lo, li, hh, hf⟩ := s
  simp only at ei ej
  have ok := h.ok
  unfold Pc.ok at ok
  simp only at ok
  rw [← ei, ← ej] at ok
  have go := gord g i j hi hj
  have lt : (gt G i).1 * (gt G j).2 < (gt G j).1 * (gt G i).2 → i < j := fun k => go.2.2.mp (by unfold ordF; rw [if_neg (by omega), if_pos k]; omega)
  have eq : (gt G i).1 * (gt G j).2 = (gt G j).1 * (gt G i).2 → i = j := fun k => go.2.1.mp (by unfold ordF; rw [if_pos k])
  have i0 : li = true → 0 < i := fun k => by
    rcases Nat.eq_zero_or_pos i with u | u
    · subst u
      have := g.first
      exact absurd ⟨by rw [this], k⟩ ok.2.2.2.1
    · exact u
  have key : (i < j ∨ (i = j ∧ li = true ∧ hf = true)) := ok.2.2.2.2.elim (fun k => .inl (lt k)) fun k => .inr ⟨eq k.1, k.2⟩
  refine ⟨(if li = true then 2 * i - 1 else 2 * i, if hf = true then 2 * j - 1 else 2 * j - 2), ⟨?_, ?_, ?_⟩, ?_⟩
  · simp only
    split
    · rename_i k; have := i0 k; omega
    · omega
  · simp only
    rcases key with k | ⟨k, k1, k2⟩
    · split <;> split <;> omega
    · rw [if_pos k1, if_pos k2]; omega
  · simp only
    split <;> omega
  · unfold rgF
    simp only
    have a1 : (((if li = true then 2 * (i : Int) - 1 else 2 * i) + 1) / 2).toNat = i := by split <;> omega
    have a2 : ((if hf = true then 2 * (j : Int) - 1 else 2 * j - 2) / 2 + 1).toNat = j := by split <;> omega
    have a3 : decide ((if li = true then 2 * (i : Int) - 1 else 2 * i) % 2 = 1) = li := by
      cases li
      · simp
      · simp only [if_true]
        exact decide_eq_true (by omega)
    have a4 : decide ((if hf = true then 2 * (j : Int) - 1 else 2 * j - 2) % 2 = 1) = hf := by
      cases hf
      · simp only [Bool.false_eq_true, if_false]
        exact decide_eq_false (by omega)
      · simp only [if_true]
        exact decide_eq_true (by omega)
    rw [a1, a2, a3, a4, ei, ej]
theorem emb (SS : List Pc) (h : ∀ s ∈ SS, GoodPc s) (hl : SS.length ≤ 400) : ∃ G : List (Int × Int), Grid G ∧ ∃ P : List PP, (∀ p ∈ P, Vp (2 * G.length - 3) p) ∧ SS = P.map (rgF G) := by
  obtain ⟨G, g1, g2, g3⟩ := ex_gp (SS.map (·.lo) ++ SS.map (·.hi)) fun e he => by
    rcases List.mem_append.mp he with k | k
    · obtain ⟨s, hs, rfl⟩ := List.mem_map.mp k; exact (h s hs).lo
    · obtain ⟨s, hs, rfl⟩ := List.mem_map.mp k; exact (h s hs).hi
  simp at g3
  obtain ⟨g, gm⟩ := g1.grid (by omega)
  refine ⟨G, g, ?_⟩
  have key : ∀ S : List Pc, (∀ s ∈ S, s ∈ SS) → ∃ P : List PP, (∀ p ∈ P, Vp (2 * G.length - 3) p) ∧ S = P.map (rgF G) := fun S => by
    induction S with
    | nil => intro _; exact ⟨[], fun p hp => (nomatch hp), rfl⟩
    | cons s S ih =>
      intro hS
      obtain ⟨P, p1, p2⟩ := ih fun x hx => hS x (List.mem_cons_of_mem _ hx)
      have hs := hS s (List.mem_cons_self ..)
      obtain ⟨i, hi, ei⟩ := gm s.lo (g2 _ (List.mem_append.mpr (.inl (List.mem_map.mpr ⟨s, hs, rfl⟩))))
      obtain ⟨j, hj, ej⟩ := gm s.hi (g2 _ (List.mem_append.mpr (.inr (List.mem_map.mpr ⟨s, hs, rfl⟩))))
      obtain ⟨p, pv, pe⟩ := emb1 g s (h s hs) i j hi hj ei ej
      refine ⟨p :: P, fun q hq => ?_, by rw [List.map_cons, pe, p2]⟩
      rcases List.mem_cons.mp hq with rfl | hq
      · exact ⟨pv.1, pv.2.1, pv.2.2⟩
      · exact p1 q hq
  exact key SS fun s hs => hs
/-! putting in one range behind another -/
def tch (p q : PP) : Prop := p.1 ≤ q.2 + 1 ∧ q.1 ≤ p.2 + 1
instance (p q : PP) : Decidable (tch p q) := inferInstanceAs (Decidable (_ ∧ _))
def uni1 (s : List PP × PP) (q : PP) : List PP × PP := if tch q s.2 then (s.1, (if q.1 ≤ s.2.1 then q.1 else s.2.1, if s.2.2 ≤ q.2 then q.2 else s.2.2)) else (s.1 ++ [q], s.2)
structure Un (rest : List PP) (c : PP) : Prop where
  cn : Canon rest
  le : c.1 ≤ c.2
  sep : ∀ r ∈ rest, r.2 + 1 < c.1 ∨ c.2 + 1 < r.1
theorem uni_fold : ∀ (B rest : List PP) (c : PP), Canon (rest ++ B) → c.1 ≤ c.2 → (∀ r ∈ rest, r.2 + 1 < c.1 ∨ c.2 + 1 < r.1) → Un (B.foldl uni1 (rest, c)).1 (B.foldl uni1 (rest, c)).2 ∧ ∀ j, (Cov (B.foldl uni1 (rest, c)).1 j ∨ ((B.foldl uni1 (rest, c)).2.1 ≤ j ∧ j ≤ (B.foldl uni1 (rest, c)).2.2)) ↔ (Cov rest j ∨ Cov B j ∨ (c.1 ≤ j ∧ j ≤ c.2))
  | [], rest, c, h, hc, hs => by
    rw [List.append_nil] at h
    refine ⟨⟨h, hc, hs⟩, fun j => ?_⟩
    show (Cov rest j ∨ (c.1 ≤ j ∧ j ≤ c.2)) ↔ _
    exact ⟨fun k => k.elim .inl fun w => .inr (.inr w), fun k => k.elim .inl fun w => w.elim (fun v => absurd v cov_nil) .inr⟩
  | q :: B, rest, c, h, hc, hs => by
    have hpw := List.pairwise_append.mp h.pw
    have hq := h.le q (by simp)
    have gap : ∀ r ∈ rest, r.2 + 1 < q.1 := fun r hr => hpw.2.2 r hr q (by simp)
    rw [List.foldl_cons]
    by_cases t : tch q c
    · rw [show uni1 (rest, c) q = (rest, (if q.1 ≤ c.1 then q.1 else c.1, if c.2 ≤ q.2 then q.2 else c.2)) from if_pos t]
      obtain ⟨t1, t2⟩ := t
      have hB : Canon (rest ++ B) := ⟨List.Pairwise.sublist (List.Sublist.append (List.Sublist.refl _) (List.sublist_cons_self _ _)) h.pw, fun p hp => h.le p (by
        rcases List.mem_append.mp hp with k | k
        · exact List.mem_append.mpr (.inl k)
        · exact List.mem_append.mpr (.inr (List.mem_cons_of_mem _ k)))⟩
      obtain ⟨u1, u2⟩ := uni_fold B rest (if q.1 ≤ c.1 then q.1 else c.1, if c.2 ≤ q.2 then q.2 else c.2) hB (by simp only; split <;> split <;> omega) fun r hr => by
        have h1 := hs r hr
        have h2 := gap r hr
        have h3 := h.le r (List.mem_append.mpr (.inl hr))
        simp only
        left
        split <;> omega
      refine ⟨u1, fun j => (u2 j).trans ?_⟩
      rw [cov_cons]
      simp only
      constructor
      · rintro (k | k | k)
        · exact .inl k
        · exact .inr (.inl (.inr k))
        · by_cases w : c.1 ≤ j ∧ j ≤ c.2
          · exact .inr (.inr w)
          · refine .inr (.inl (.inl ?_))
            obtain ⟨k1, k2⟩ := k
            split at k1 <;> split at k2 <;> omega
      · rintro (k | (k | k) | k)
        · exact .inl k
        · refine .inr (.inr ⟨?_, ?_⟩) <;> split <;> omega
        · exact .inr (.inl k)
        · refine .inr (.inr ⟨?_, ?_⟩) <;> split <;> omega
    · rw [show uni1 (rest, c) q = (rest ++ [q], c) from if_neg t]
      obtain ⟨u1, u2⟩ := uni_fold B (rest ++ [q]) c (by rw [List.append_assoc]; exact h) hc fun r hr => by
        rcases List.mem_append.mp hr with k | k
        · exact hs r k
        · rw [List.mem_singleton] at k
          subst k
          unfold tch at t
          omega
      refine ⟨u1, fun j => (u2 j).trans ?_⟩
      rw [cov_app, cov_one, cov_cons]
      constructor
      · rintro ((k | k) | k | k)
        · exact .inl k
        · exact .inr (.inl (.inl k))
        · exact .inr (.inl (.inr k))
        · exact .inr (.inr k)
      · rintro (k | (k | k) | k)
        · exact .inl (.inl k)
        · exact .inl (.inr k)
        · exact .inr (.inl k)
        · exact .inr (.inr k)
theorem Un.split {rest : List PP} {c : PP} (h : Un rest c) : ∃ L R, rest = L ++ R ∧ (∀ x ∈ L, x.2 + 1 < c.1) ∧ (∀ x ∈ R, c.2 + 1 < x.1) ∧ Canon (L ++ [c] ++ R) := by
  have key : ∀ rest : List PP, Canon rest → (∀ r ∈ rest, r.2 + 1 < c.1 ∨ c.2 + 1 < r.1) → ∃ L R, rest = L ++ R ∧ (∀ x ∈ L, x.2 + 1 < c.1) ∧ (∀ x ∈ R, c.2 + 1 < x.1) := fun rest => by
    induction rest with
    | nil => intro _ _; exact ⟨[], [], rfl, fun x hx => (nomatch hx), fun x hx => (nomatch hx)⟩
    | cons r rest ih =>
      intro hc hs
      obtain ⟨L, R, e, h1, h2⟩ := ih hc.tail fun x hx => hs x (List.mem_cons_of_mem _ hx)
      rcases hs r (List.mem_cons_self ..) with k | k
      · refine ⟨r :: L, R, by rw [e]; rfl, fun x hx => ?_, h2⟩
        rcases List.mem_cons.mp hx with rfl | hx
        · exact k
        · exact h1 x hx
      · refine ⟨[], r :: rest, rfl, fun x hx => (nomatch hx), fun x hx => ?_⟩
        rcases List.mem_cons.mp hx with rfl | hx
        · exact k
        · have := (List.pairwise_cons.mp hc.pw).1 x hx
          have := hc.le r (List.mem_cons_self ..)
          omega
  obtain ⟨L, R, e, h1, h2⟩ := key rest h.cn h.sep
  refine ⟨L, R, e, h1, h2, ?_, fun p hp => ?_⟩
  · have cn := h.cn.pw
    rw [e] at cn
    obtain ⟨c1, c2, c3⟩ := List.pairwise_append.mp cn
    refine List.pairwise_append.mpr ⟨List.pairwise_append.mpr ⟨c1, List.pairwise_singleton _ _, fun a ha b hb => ?_⟩, c2, fun a ha b hb => ?_⟩
    · rw [List.mem_singleton] at hb
      subst hb
      exact h1 a ha
    · rcases List.mem_append.mp ha with k | k
      · exact c3 a k b hb
      · rw [List.mem_singleton] at k
        subst k
        exact h2 b hb
  · rcases List.mem_append.mp hp with k | k
    · rcases List.mem_append.mp k with k | k
      · exact h.cn.le p (by rw [e]; exact List.mem_append.mpr (.inl k))
      · rw [List.mem_singleton] at k
        subst k
        exact h.le
    · exact h.cn.le p (by rw [e]; exact List.mem_append.mpr (.inr k))
end LW

namespace LW
open PySem PySem.Spec PyProof.Rows L2 DL
theorem w_fraction (a b : Int) (Q : D → Int → Prop) (X : Er → Int → Prop) (z : Int) (hb : b.natAbs < 2 ^ 1000) (h0 : b = 0 → X ("InvalidFraction", .tup [.int a, .int b]) z)
    (h : b ≠ 0 → Q (rat a b) z) : m_fraction [.int a, .int b] Q X z := by
  rw [me_fraction]
  simp [s_fraction]
  refine ⟨h0, fun hb0 => w_common_divisor a b _ _ z fun g hg => ?_⟩
  have hs := shr_ok (a := a) hb0 hb
  have hr := h hb0
  unfold rat at hr
  unfold shr at hs hr
  rw [← hg] at hs hr
  by_cases hn : b < 0
  · rw [if_pos hn] at hs hr
    have h1 : ¬ g = 0 := by omega
    have h2 : g.natAbs.log2 < 9000 := by simpa using hs.2
    simp [hn, h1, h2, hr, show ¬ 0 ≤ b by omega]
  · rw [if_neg hn] at hs hr
    have h1 : ¬ g = 0 := by omega
    simp [hn, h1, hs.2, hr]
end LW

namespace LW
open PySem PySem.Spec PyProof.Rows L2 DL
theorem w_checked_fraction (a b : Int) (Q : D → Int → Prop) (X : Er → Int → Prop) (z : Int) (h0 : bad (a, b) → X ("InvalidFraction", .tup [.int a, .int b]) z) (h : ¬ bad (a, b) → Q (.tup [.int a, .int b]) z) : m_checked_fraction [.tup [.int a, .int b]] Q X z := by
  rw [me_checked_fraction]
  simp [s_checked_fraction]
  refine w_is_fraction a b _ _ z (fun hb => ?_) (fun hb => ?_)
  · simp
    exact h0 hb
  · simp
    exact h hb
theorem w_compare (a b c d : Int) (Q : D → Int → Prop) (X : Er → Int → Prop) (z : Int) (h1 : sm (a, b)) (h2 : sm (c, d)) (x1 : bad (a, b) → X ("InvalidFraction", .tup [.int a, .int b]) z) (x2 : ¬ bad (a, b) → bad (c, d) → X ("InvalidFraction", .tup [.int c, .int d]) z)
    (h : ¬ bad (a, b) → ¬ bad (c, d) → Q (.int (ordF (a, b) (c, d))) z) : m_compare [.tup [.int a, .int b], .tup [.int c, .int d]] Q X z := by
  rw [me_compare]
  simp [s_compare]
  refine w_checked_fraction a b _ _ z x1 fun n1 => ?_
  refine w_checked_fraction c d _ _ z (x2 n1) fun n2 => ?_
  exact w_fraction_order a b c d _ _ z h1 h2 (h n1 n2)
end LW

namespace LW
open PySem PySem.Spec PyProof.Rows L2 DL
theorem lc_filt {α : Type} (k : Nat) (ρ0 : Rho) (g f : α → D) (t : α → Bool) (hw : ∀ d, wipeR (ρ0.set k (.fr d)) [k] = ρ0) (test : E Bool) (body : E D) (z : Int) : ∀ (xs : List α) (acc : List D) (Q : List D → Rho → Int → Prop) (X : Er → Rho → Int → Prop),
    (∀ x ∈ xs, ∀ Q' : Bool → Rho → Int → Prop, Q' (t x) (ρ0.set k (.fr (g x))) z → test (ρ0.set k (.fr (g x))) Q' (fun _ _ _ => False) z) →
    (∀ x ∈ xs, ∀ Q' : D → Rho → Int → Prop, Q' (f x) (ρ0.set k (.fr (g x))) z → body (ρ0.set k (.fr (g x))) Q' (fun _ _ _ => False) z) → acc.length + xs.length ≤ 16777216 → Q (acc ++ (xs.filter t).map f) ρ0 z → lcL [k] (gN k) test body (xs.map g) acc ρ0 Q X z := by
  intro xs
  induction xs with
  | nil => intro acc Q X _ _ _ h; simpa using h
  | cons x xs ih =>
    intro acc Q X ht hb hl h
    simp only [List.map_cons, List.length_cons] at hl ⊢
    rw [lcL_cons]
    simp only [gN_a]
    refine ht x (List.mem_cons_self ..) _ ?_
    have ht' := fun y hy => ht y (List.mem_cons_of_mem _ hy)
    have hb' := fun y hy => hb y (List.mem_cons_of_mem _ hy)
    cases e : t x with
    | true =>
      rw [if_pos rfl]
      refine hb x (List.mem_cons_self ..) _ ⟨by omega, ?_⟩
      rw [hw]
      refine ih _ _ _ ht' hb' (by simp; omega) ?_
      rw [List.filter_cons, e] at h
      simpa using h
    | false =>
      rw [if_neg Bool.false_ne_true, hw]
      refine ih _ _ _ ht' hb' (by omega) ?_
      rw [List.filter_cons, e] at h
      simpa using h
def loD (G : List (Int × Int)) (a : Int) : D := prD (gt G ((a + 1) / 2).toNat)
def liD (a : Int) : D := .bl (decide (a % 2 = 1))
def hiD' (G : List (Int × Int)) (b : Int) : D := prD (gt G (b / 2 + 1).toNat)
theorem rg_parts (G : List (Int × Int)) (p : PP) : rgD G p = .tup [loD G p.1, liD p.1, hiD' G p.2, liD p.2] := rfl
theorem bg_mem {G : List (Int × Int)} (g : Grid G) (i : Nat) : bg (gt G i) := by
  have h1 := g.n0 i
  have h2 := g.le i
  have h3 := g.d1 i
  have h4 := g.d9 i
  exact ⟨by omega, by omega⟩
section
variable {G : List (Int × Int)} (g : Grid G)
include g
theorem less_gt (i j : Nat) (hi : i < G.length) (hj : j < G.length) (Q : D → Int → Prop) (X : Er → Int → Prop) (z : Int) (h : Q (.bl (decide (i < j))) z) : m__law_dv_less [prD (gt G i), prD (gt G j)] Q X z := by
  refine w__law_dv_less _ _ (bg_mem g i) (bg_mem g j) _ _ z ?_
  have o := gord g i j hi hj
  have : ((gt G i).1 * (gt G j).2 < (gt G j).1 * (gt G i).2) ↔ i < j := by
    rw [← o.2.2]
    unfold ordF
    split
    · omega
    · split <;> omega
  rw [show decide ((gt G i).1 * (gt G j).2 < (gt G j).1 * (gt G i).2) = decide (i < j) from by rw [decide_eq_decide]; exact this]
  exact h
theorem eq_gt (i j : Nat) (hi : i < G.length) (hj : j < G.length) : (gt G i).1 = (gt G j).1 ∧ (gt G i).2 = (gt G j).2 ↔ i = j := by
  constructor
  · intro ⟨a, b⟩
    refine (gord g i j hi hj).2.1.mp ?_
    unfold ordF
    rw [if_pos (by rw [a, b])]
  · intro e
    subst e
    exact ⟨rfl, rfl⟩
theorem t_touch (p q : PP) (hp : Vp (2 * G.length - 3) p) (hq : Vp (2 * G.length - 3) q) (u v : Sl) (Q : Fl → Rho → Int → Prop) (X : Er → Rho → Int → Prop) (z : Int) (h1 : q.1 ≤ p.2 + 1 → Q .nx [u, v, Sl.fr (rgD G p), Sl.fr (rgD G q)] z) (h0 : ¬ q.1 ≤ p.2 + 1 → Q (.ret (.bl false)) [u, v, Sl.fr (rgD G p), Sl.fr (rgD G q)] z) : p0__law_dv_touch [u, v, Sl.fr (rgD G p), Sl.fr (rgD G q)] Q X z := by
  have a0 := hp.lo
  have a1 := hp.le
  have a2 := hp.hi
  have b0 := hq.lo
  have b1 := hq.le
  have b2 := hq.hi
  rw [p0__law_dv_touch]
  simp [rg_ix0, rg_ix1, rg_ix2, rg_ix3]
  refine less_gt g _ _ (by omega) (by omega) _ _ z ?_
  have e := eq_gt g (p.2 / 2 + 1).toNat ((q.1 + 1) / 2).toNat (by omega) (by omega)
  simp [prD, e]
  refine ⟨fun k => h0 (by omega), fun k => ⟨fun k2 => ?_, fun k2 => h1 (by omega)⟩⟩
  by_cases w : p.2 % 2 = 1
  · simp [w]
    exact h1 (by omega)
  · simp [w]
    exact ⟨fun w2 => h0 (by omega), fun w2 => h1 (by omega)⟩
theorem w__law_dv_touch (p q : PP) (hp : Vp (2 * G.length - 3) p) (hq : Vp (2 * G.length - 3) q) (Q : D → Int → Prop) (X : Er → Int → Prop) (z : Int) (h : Q (.bl (decide (tch p q))) z) : m__law_dv_touch [rgD G p, rgD G q] Q X z := by
  rw [me__law_dv_touch]
  simp [s__law_dv_touch, forL_cons]
  refine t_touch g p q hp hq _ _ _ _ z (fun k1 => ?_) fun k1 => ?_
  · simp [forL_cons]
    refine t_touch g q p hq hp _ _ _ _ z (fun k2 => ?_) fun k2 => ?_
    · simp
      rwa [decide_eq_true (show tch p q from ⟨k2, k1⟩)] at h
    · simp
      rwa [decide_eq_false (show ¬ tch p q from fun w => k2 w.1)] at h
  · simp
    rwa [decide_eq_false (show ¬ tch p q from fun w => k1 w.2)] at h
end
def up1 : E Fl := (sIf (tN (tV (eCall 2 2 0 m__law_dv_touch gL (aC (eVar 7) (aC (eTup (aC (eVar 2) (aC (eVar 3) (aC (eVar 4) (aC (eVar 5) aN))))) aN)) aN)))
    (sSeq (sApp 6 (eVar 7))
    (ep .ct))
    (ep .nx))
def up2 : E Fl := (sIf (eOr (tV (eCall 2 2 0 m__law_dv_less gL (aC (bO dIx (ePk 7) (ep (.int 0))) (aC (eVar 2) aN)) aN)) (eAnd (eT (bO dEq (bO dIx (ePk 7) (ep (.int 0))) (ePk 2))) (tV (bO dIx (ePk 7) (ep (.int 1))))))
    (sAsg (eb (ePk 7) fun d => eb (ep none) fun lo => eb (eb (ep (.int 2)) fPart) fun hi => fSlE d lo hi) (gTp 2 (gCn (gN 2) (gCn (gN 3) gNl))))
    (ep .nx))
def up3 : E Fl := (sIf (eOr (tV (eCall 2 2 0 m__law_dv_less gL (aC (eVar 4) (aC (bO dIx (ePk 7) (ep (.int 2))) aN)) aN)) (eAnd (eT (bO dEq (bO dIx (ePk 7) (ep (.int 2))) (ePk 4))) (tV (bO dIx (ePk 7) (ep (.int 3))))))
    (sAsg (eb (ePk 7) fun d => eb (eb (ep (.int 2)) fPart) fun lo => eb (ep none) fun hi => fSlE d lo hi) (gTp 2 (gCn (gN 4) (gCn (gN 5) gNl))))
    (ep .nx))
theorem up_eq (ρ : Rho) (Q : Fl → Rho → Int → Prop) (X : Er → Rho → Int → Prop) (z : Int) : p2__law_dv_union ρ Q X z = (sSeq up1 (sSeq up2 up3)) ρ Q X z := rfl
section
variable {G : List (Int × Int)} (g : Grid G)
include g
theorem up2_ok (q c : PP) (hq : Vp (2 * G.length - 3) q) (hc : Vp (2 * G.length - 3) c) (t0 t1 t4 t5 t6 t8 : Sl) (Q : Fl → Rho → Int → Prop) (X : Er → Rho → Int → Prop) (z : Int)
    (h1 : q.1 ≤ c.1 → Q .nx [t0, t1, Sl.fr (loD G q.1), Sl.fr (liD q.1), t4, t5, t6, Sl.fr (rgD G q), t8] z) (h0 : c.1 ≤ q.1 → Q .nx [t0, t1, Sl.fr (loD G c.1), Sl.fr (liD c.1), t4, t5, t6, Sl.fr (rgD G q), t8] z) :
    up2 [t0, t1, Sl.fr (loD G c.1), Sl.fr (liD c.1), t4, t5, t6, Sl.fr (rgD G q), t8] Q X z := by
  have a0 := hc.lo
  have a1 := hc.le
  have a2 := hc.hi
  have b0 := hq.lo
  have b1 := hq.le
  have b2 := hq.hi
  have cut : ∀ ρ (K : D → Rho → Int → Prop) X z, fSlE (rgD G q) none (some 2) ρ K X z = K (.tup [loD G q.1, liD q.1]) ρ z := fun ρ K X z => by
    rw [rg_parts]
    simp [cut4a]
  simp [up2, rg_ix0, rg_ix1, cut]
  refine less_gt g _ _ (by omega) (by omega) _ _ z ?_
  have e1 := eq_gt g ((q.1 + 1) / 2).toNat ((c.1 + 1) / 2).toNat (by omega) (by omega)
  by_cases l : ((q.1 + 1) / 2).toNat < ((c.1 + 1) / 2).toNat
  · simp [l]
    exact h1 (by omega)
  · simp [l, loD, prD, e1]
    refine ⟨fun k => ⟨fun k2 => ?_, fun k2 => ?_⟩, fun k => ?_⟩
    · simpa [loD, prD] using h1 (by omega)
    · simpa [loD, prD] using h0 (by omega)
    · simpa [loD, prD] using h0 (by omega)
theorem up3_ok (q c : PP) (hq : Vp (2 * G.length - 3) q) (hc : Vp (2 * G.length - 3) c) (t0 t1 t2 t3 t6 t8 : Sl) (Q : Fl → Rho → Int → Prop) (X : Er → Rho → Int → Prop) (z : Int)
    (h1 : c.2 ≤ q.2 → Q .nx [t0, t1, t2, t3, Sl.fr (hiD' G q.2), Sl.fr (liD q.2), t6, Sl.fr (rgD G q), t8] z) (h0 : q.2 ≤ c.2 → Q .nx [t0, t1, t2, t3, Sl.fr (hiD' G c.2), Sl.fr (liD c.2), t6, Sl.fr (rgD G q), t8] z) :
    up3 [t0, t1, t2, t3, Sl.fr (hiD' G c.2), Sl.fr (liD c.2), t6, Sl.fr (rgD G q), t8] Q X z := by
  have a0 := hc.lo
  have a1 := hc.le
  have a2 := hc.hi
  have b0 := hq.lo
  have b1 := hq.le
  have b2 := hq.hi
  have cut : ∀ ρ (K : D → Rho → Int → Prop) X z, fSlE (rgD G q) (some 2) none ρ K X z = K (.tup [hiD' G q.2, liD q.2]) ρ z := fun ρ K X z => by
    rw [rg_parts]
    simp [cut4b]
  simp [up3, rg_ix2, rg_ix3, cut]
  refine less_gt g _ _ (by omega) (by omega) _ _ z ?_
  have e1 := eq_gt g (q.2 / 2 + 1).toNat (c.2 / 2 + 1).toNat (by omega) (by omega)
  by_cases l : (c.2 / 2 + 1).toNat < (q.2 / 2 + 1).toNat
  · simp [l]
    exact h1 (by omega)
  · simp [l, hiD', prD, e1]
    refine ⟨fun k => ⟨fun k2 => ?_, fun k2 => ?_⟩, fun k => ?_⟩
    · simpa [hiD', prD] using h1 (by omega)
    · simpa [hiD', prD] using h0 (by omega)
    · simpa [hiD', prD] using h0 (by omega)
theorem t_uni (F : List PP) (c q : PP) (hs : Vp (2 * G.length - 3) c) (hq : Vp (2 * G.length - 3) q) (hl : F.length ≤ 10000) (t0 t1 t8 : Sl) (Q : Fl → Rho → Int → Prop) (X : Er → Rho → Int → Prop) (z : Int)
    (h : ∀ s, s = uni1 (F, c) q → Q .nx [t0, t1, Sl.fr (loD G s.2.1), Sl.fr (liD s.2.1), Sl.fr (hiD' G s.2.2), Sl.fr (liD s.2.2), Sl.own (hg G s.1), Sl.fr (rgD G q), t8] z ∧ Q .ct [t0, t1, Sl.fr (loD G s.2.1), Sl.fr (liD s.2.1), Sl.fr (hiD' G s.2.2), Sl.fr (liD s.2.2), Sl.own (hg G s.1), Sl.fr (rgD G q), t8] z) :
    p2__law_dv_union [t0, t1, Sl.fr (loD G c.1), Sl.fr (liD c.1), Sl.fr (hiD' G c.2), Sl.fr (liD c.2), Sl.own (hg G F), Sl.fr (rgD G q), t8] Q X z := by
  have hgl : ∀ A : List PP, (hg G A).length = A.length := fun A => by simp [hg]
  rw [up_eq]
  have tc := fun Q X h => w__law_dv_touch g q c hq hs Q X z h
  rw [rg_parts G c] at tc
  simp [up1]
  refine tc _ _ ?_
  have h' := h _ rfl
  by_cases t : tch q c
  · simp [t]
    rw [show uni1 (F, c) q = (F, (if q.1 ≤ c.1 then q.1 else c.1, if c.2 ≤ q.2 then q.2 else c.2)) from if_pos t] at h'
    simp only at h'
    have fin : ∀ a b : Int, a = (if q.1 ≤ c.1 then q.1 else c.1) → b = (if c.2 ≤ q.2 then q.2 else c.2) → Q .nx [t0, t1, Sl.fr (loD G a), Sl.fr (liD a), Sl.fr (hiD' G b), Sl.fr (liD b), Sl.own (hg G F), Sl.fr (rgD G q), t8] z := fun a b ha hb => by
      rw [ha, hb]
      exact h'.1
    refine up2_ok g q c hq hs _ _ _ _ _ _ _ _ z (fun k => ?_) fun k => ?_
    · simp
      refine up3_ok g q c hq hs _ _ _ _ _ _ _ _ z (fun k2 => fin _ _ ?_ ?_) fun k2 => fin _ _ ?_ ?_
      all_goals split <;> omega
    · simp
      refine up3_ok g q c hq hs _ _ _ _ _ _ _ _ z (fun k2 => fin _ _ ?_ ?_) fun k2 => fin _ _ ?_ ?_
      all_goals split <;> omega
  · simp [t]
    rw [show uni1 (F, c) q = (F ++ [q], c) from if_neg t] at h'
    have e : hg G (F ++ [q]) = hg G F ++ [rgD G q] := hg_app ..
    simp only [e] at h'
    exact ⟨by rw [hgl]; omega, h'.2⟩
theorem l_uni (t0 t1 t8 : Sl) : ∀ (B F : List PP) (c : PP) (t7 : Sl) (Q : Fl → Rho → Int → Prop) (X : Er → Rho → Int → Prop) (z : Int), (∀ q ∈ B, Vp (2 * G.length - 3) q) → Vp (2 * G.length - 3) c → (∀ q ∈ F, Vp (2 * G.length - 3) q) → F.length + B.length ≤ 9000 →
    ((∀ q ∈ (B.foldl uni1 (F, c)).1, Vp (2 * G.length - 3) q) → Vp (2 * G.length - 3) (B.foldl uni1 (F, c)).2 → (B.foldl uni1 (F, c)).1.length ≤ F.length + B.length → ∀ t7, Q .nx [t0, t1, Sl.fr (loD G (B.foldl uni1 (F, c)).2.1), Sl.fr (liD (B.foldl uni1 (F, c)).2.1), Sl.fr (hiD' G (B.foldl uni1 (F, c)).2.2), Sl.fr (liD (B.foldl uni1 (F, c)).2.2), Sl.own (hg G (B.foldl uni1 (F, c)).1), t7, t8] z) →
    forL (gN 7) p2__law_dv_union (hg G B) [t0, t1, Sl.fr (loD G c.1), Sl.fr (liD c.1), Sl.fr (hiD' G c.2), Sl.fr (liD c.2), Sl.own (hg G F), t7, t8] Q X z := by
  intro B
  induction B with
  | nil => intro F c t7 Q X z _ hc hF _ hq; exact hq hF hc (by simp) t7
  | cons q B ih =>
    intro F c t7 Q X z hB hc hF hl hq
    simp only [List.length_cons] at hl hq
    rw [show hg G (q :: B) = rgD G q :: hg G B from rfl]
    simp only [forL_cons, gN_a, List.set_cons_zero, List.set_cons_succ]
    have vq := hB q (List.mem_cons_self ..)
    refine t_uni g F c q hc vq (by omega) _ _ _ _ _ z fun s hs => ?_
    have v : (∀ q ∈ s.1, Vp (2 * G.length - 3) q) ∧ Vp (2 * G.length - 3) s.2 ∧ s.1.length ≤ F.length + 1 := by
      subst hs
      unfold uni1
      split
      · have c0 := hc.lo
        have c1 := hc.le
        have c2 := hc.hi
        have q0 := vq.lo
        have q1 := vq.le
        have q2 := vq.hi
        refine ⟨hF, ⟨?_, ?_, ?_⟩, by simp⟩
        · show 0 ≤ (if q.1 ≤ c.1 then q.1 else c.1); split <;> omega
        · show (if q.1 ≤ c.1 then q.1 else c.1) ≤ (if c.2 ≤ q.2 then q.2 else c.2); split <;> split <;> omega
        · show (if c.2 ≤ q.2 then q.2 else c.2) ≤ _; split <;> omega
      · refine ⟨fun x hx => ?_, hc, by simp⟩
        rcases List.mem_append.mp hx with k | k
        · exact hF x k
        · rw [List.mem_singleton] at k
          subst k
          exact vq
    have ef : ∀ s, s = uni1 (F, c) q → (q :: B).foldl uni1 (F, c) = B.foldl uni1 s := fun s hs => by rw [hs]; rfl
    rw [ef s hs] at hq
    obtain ⟨s1, s2⟩ := s
    have nx := ih s1 s2 (Sl.fr (rgD G q)) Q X z (fun x hx => hB x (List.mem_cons_of_mem _ hx)) v.2.1 v.1 (by have := v.2.2; simp only at this; omega) (fun a b c' => hq a b (by have := v.2.2; simp only at this; omega))
    exact ⟨by simp only [forK_1]; exact nx, by simp only [forK_5]; exact nx⟩
theorem t_union (F : List PP) (cF : Canon F) (vF : ∀ q ∈ F, Vp (2 * G.length - 3) q) (hl : F.length ≤ 4000) (p : PP) (hp : Vp (2 * G.length - 3) p) (t0 t6 t7 t8 : Sl) (Q : Fl → Rho → Int → Prop) (X : Er → Rho → Int → Prop) (z : Int)
    (h : ∀ R, Canon R → (∀ q ∈ R, Vp (2 * G.length - 3) q) → R.length ≤ F.length + 1 → (∀ j, Cov R j ↔ (Cov F j ∨ (p.1 ≤ j ∧ j ≤ p.2))) → ∀ t2 t3 t4 t5 t6 t7 t8, Q .nx [t0, Sl.fr (.lst (hg G R)), t2, t3, t4, t5, t6, t7, t8] z) :
    p3__law_dv_union [t0, Sl.fr (.lst (hg G F)), Sl.fr (loD G p.1), Sl.fr (liD p.1), Sl.fr (hiD' G p.2), Sl.fr (liD p.2), t6, t7, t8] Q X z := by
  have hgl : ∀ A : List PP, (hg G A).length = A.length := fun A => by simp [hg]
  obtain ⟨un, cv⟩ := uni_fold F [] p (by simpa using cF) hp.le (fun r hr => nomatch hr)
  rw [p3__law_dv_union]
  simp
  refine l_uni g _ _ _ F [] p _ _ _ z vF hp (fun q hq => nomatch hq) (by simp; omega) fun v1 v2 ln t7 => ?_
  generalize F.foldl uni1 ([], p) = s at *
  obtain ⟨rest, c⟩ := s
  simp only at un cv v1 v2 ln
  obtain ⟨L, R, e, l1, l2, cn⟩ := un.split
  simp [wipeR]
  refine lc_filt (α := PP) 7 [t0, Sl.fr (.lst (hg G F)), Sl.fr (loD G c.1), Sl.fr (liD c.1), Sl.fr (hiD' G c.2), Sl.fr (liD c.2), Sl.fr (.lst (hg G rest)), .no, t8] (rgD G) (rgD G) (fun r => decide (((r.1 + 1) / 2).toNat < ((c.1 + 1) / 2).toNat)) (fun d => rfl) _ _ z rest [] _ _ (fun r hr Q' hq => ?_) (fun r hr Q' hq => ?_) (by simp at ln ⊢; omega) ?_
  · have a0 := (v1 r hr).lo
    have a1 := (v1 r hr).le
    have a2 := (v1 r hr).hi
    have b0 := v2.lo
    have b1 := v2.le
    have b2 := v2.hi
    rw [p1__law_dv_union]
    simp [rg_ix0]
    refine less_gt g _ _ (by omega) (by omega) _ _ z ?_
    simp at hq ⊢
    exact hq
  · rw [p0__law_dv_union]
    simp at hq ⊢
    exact hq
  · have fl : (rest.filter fun r => decide (((r.1 + 1) / 2).toNat < ((c.1 + 1) / 2).toNat)) = L := by
      rw [e, List.filter_append, List.filter_eq_self.mpr, List.filter_eq_nil_iff.mpr, List.append_nil]
      · intro x hx
        have := l2 x hx
        have := un.le
        have := v2.lo
        rw [decide_eq_true_eq]
        omega
      · intro x hx
        have := l1 x hx
        have xm : x ∈ rest := by rw [e]; exact List.mem_append.mpr (.inl hx)
        have := (v1 x xm).le
        have := (v1 x xm).lo
        exact decide_eq_true (by omega)
    rw [fl]
    have et : DL.cutD (hg G rest) none (some (L.length : Int)) = hg G L := by
      rw [cutD_take, e, hg_app]
      have : L.length = (hg G L).length := (hgl L).symm
      rw [this, List.take_left]
    have ed : DL.cutD (hg G rest) (some (L.length : Int)) none = hg G R := by
      rw [cutD_drop, e, hg_app]
      have : L.length = (hg G L).length := (hgl L).symm
      rw [this, List.drop_left]
    have rl : rest.length = L.length + R.length := by rw [e, List.length_append]
    simp at ln
    simp [et, ed, hgl]
    refine ⟨by omega, by omega, ?_⟩
    have eh : hg G (L ++ [c] ++ R) = hg G L ++ D.tup [loD G c.1, liD c.1, hiD' G c.2, liD c.2] :: hg G R := by
      rw [List.append_assoc, hg_app]
      rfl
    have k := h (L ++ [c] ++ R) cn (fun q hq => ?_) (by simp; omega) (fun j => ?_)
    · rw [eh] at k
      exact k _ _ _ _ _ _ _
    · rcases List.mem_append.mp hq with w | w
      · rcases List.mem_append.mp w with w | w
        · exact v1 q (by rw [e]; exact List.mem_append.mpr (.inl w))
        · rw [List.mem_singleton] at w
          subst w
          exact v2
      · exact v1 q (by rw [e]; exact List.mem_append.mpr (.inr w))
    · rw [cov_app, cov_app, cov_one]
      have := cv j
      rw [e, cov_app] at this
      constructor
      · rintro ((w | w) | w)
        · exact (this.mp (.inl (.inl w))).elim (fun v => absurd v cov_nil) id
        · exact (this.mp (.inr w)).elim (fun v => absurd v cov_nil) id
        · exact (this.mp (.inl (.inr w))).elim (fun v => absurd v cov_nil) id
      · intro w
        rcases this.mpr (.inr w) with (v | v) | v
        · exact .inl (.inl v)
        · exact .inr v
        · exact .inl (.inr v)
theorem l_union (t0 : Sl) : ∀ (P F : List PP) (t2 t3 t4 t5 t6 t7 t8 : Sl) (Q : Fl → Rho → Int → Prop) (X : Er → Rho → Int → Prop) (z : Int), (∀ q ∈ P, Vp (2 * G.length - 3) q) → Canon F → (∀ q ∈ F, Vp (2 * G.length - 3) q) → F.length + P.length ≤ 4000 →
    (∀ R, Canon R → (∀ j, Cov R j ↔ (Cov F j ∨ Cov P j)) → (∀ q ∈ R, Vp (2 * G.length - 3) q) → R.length ≤ F.length + P.length → ∀ t2 t3 t4 t5 t6 t7 t8, Q .nx [t0, Sl.fr (.lst (hg G R)), t2, t3, t4, t5, t6, t7, t8] z) →
    forL (gTp 4 (gCn (gN 2) (gCn (gN 3) (gCn (gN 4) (gCn (gN 5) gNl))))) p3__law_dv_union (hg G P) [t0, Sl.fr (.lst (hg G F)), t2, t3, t4, t5, t6, t7, t8] Q X z := by
  intro P
  induction P with
  | nil => intro F t2 t3 t4 t5 t6 t7 t8 Q X z _ cF vF _ hq; exact hq F cF (fun j => ⟨.inl, fun k => k.elim id fun w => absurd w cov_nil⟩) vF (by simp) _ _ _ _ _ _ _
  | cons p P ih =>
    intro F t2 t3 t4 t5 t6 t7 t8 Q X z hP cF vF hl hq
    simp only [List.length_cons] at hl
    rw [show hg G (p :: P) = rgD G p :: hg G P from rfl, rg_parts]
    simp only [forL_cons]
    simp
    refine t_union g F cF vF (by omega) p (hP p (List.mem_cons_self ..)) _ _ _ _ _ _ z fun R cR vR lR eR t2 t3 t4 t5 t6 t7 t8 => ?_
    simp only [forK_1]
    refine ih R _ _ _ _ _ _ _ _ _ z (fun q hq => hP q (List.mem_cons_of_mem _ hq)) cR vR (by omega) fun R' c' e' v' l' => hq R' c' (fun j => ?_) v' (by simp; omega)
    rw [e' j, eR j, cov_cons]
    constructor
    · rintro ((w | w) | w)
      · exact .inl w
      · exact .inr (.inl w)
      · exact .inr (.inr w)
    · rintro (w | w | w)
      · exact .inl (.inl w)
      · exact .inl (.inr w)
      · exact .inr w
theorem w__law_dv_union (P : List PP) (hP : ∀ q ∈ P, Vp (2 * G.length - 3) q) (hl : P.length ≤ 1000) (Q : D → Int → Prop) (X : Er → Int → Prop) (z : Int) (h : ∀ R, Canon R → (∀ j, Cov R j ↔ Cov P j) → (∀ q ∈ R, Vp (2 * G.length - 3) q) → R.length ≤ 1000 → Q (.lst (hg G R)) z) : m__law_dv_union [.lst (hg G P)] Q X z := by
  rw [me__law_dv_union]
  simp [s__law_dv_union]
  refine l_union g _ P [] _ _ _ _ _ _ _ _ _ z hP Canon.nil (fun q hq => nomatch hq) (by simp; omega) fun R c e v l t2 t3 t4 t5 t6 t7 t8 => ?_
  simp
  refine h R c (fun j => (e j).trans ⟨fun k => k.elim (fun w => absurd w cov_nil) id, .inr⟩) v (by simp at l; omega)
end
/-! the widest range -/
def wid (G : List (Int × Int)) (p : PP) : Int × Int := rr ((gt G (p.2 / 2 + 1).toNat).1 * (gt G ((p.1 + 1) / 2).toNat).2 - (gt G ((p.1 + 1) / 2).toNat).1 * (gt G (p.2 / 2 + 1).toNat).2) ((gt G (p.2 / 2 + 1).toNat).2 * (gt G ((p.1 + 1) / 2).toNat).2)
def wmax (G : List (Int × Int)) (a : Int × Int) (p : PP) : Int × Int := if a.1 * (wid G p).2 < (wid G p).1 * a.2 then wid G p else a
structure Ac (a : Int × Int) : Prop where
  b : a.1.natAbs < 2 ^ 100 ∧ a.2.natAbs < 2 ^ 100
  n : ¬ bad a
theorem Ac.bg {a : Int × Int} (h : Ac a) : bg a := ⟨by have := h.b.1; omega, by have := h.b.2; omega⟩
theorem w_compare_big (p q : Int × Int) (hp : Ac p) (hq : Ac q) (Q : D → Int → Prop) (X : Er → Int → Prop) (z : Int) (h : Q (.int (ordF p q)) z) : m_compare [prD p, prD q] Q X z := by
  obtain ⟨a, b⟩ := p
  obtain ⟨c, d⟩ := q
  rw [me_compare]
  simp [s_compare, prD]
  refine w_checked_fraction a b _ _ z (fun k => absurd k hp.n) fun _ => ?_
  refine w_checked_fraction c d _ _ z (fun k => absurd k hq.n) fun _ => ?_
  exact w_order_big a b c d _ _ z hp.bg hq.bg h
section
variable {G : List (Int × Int)} (g : Grid G)
include g
theorem wid_facts (p : PP) : ((gt G (p.2 / 2 + 1).toNat).1 * (gt G ((p.1 + 1) / 2).toNat).2 - (gt G ((p.1 + 1) / 2).toNat).1 * (gt G (p.2 / 2 + 1).toNat).2).natAbs ≤ 2 * 10 ^ 24 ∧ 1 ≤ (gt G (p.2 / 2 + 1).toNat).2 * (gt G ((p.1 + 1) / 2).toNat).2 ∧ ((gt G (p.2 / 2 + 1).toNat).2 * (gt G ((p.1 + 1) / 2).toNat).2).natAbs ≤ 10 ^ 24 ∧ Ac (wid G p) := by
  have a1 := g.n0 (p.2 / 2 + 1).toNat
  have a2 := g.le (p.2 / 2 + 1).toNat
  have a3 := g.d1 (p.2 / 2 + 1).toNat
  have a4 := g.d9 (p.2 / 2 + 1).toNat
  have b1 := g.n0 ((p.1 + 1) / 2).toNat
  have b2 := g.le ((p.1 + 1) / 2).toNat
  have b3 := g.d1 ((p.1 + 1) / 2).toNat
  have b4 := g.d9 ((p.1 + 1) / 2).toNat
  unfold wid
  generalize gt G (p.2 / 2 + 1).toNat = u at *
  generalize gt G ((p.1 + 1) / 2).toNat = v at *
  have mb : ∀ x y : Int, 0 ≤ x → x ≤ 10 ^ 12 → 0 ≤ y → y ≤ 10 ^ 12 → 0 ≤ x * y ∧ x * y ≤ 10 ^ 24 := fun x y x0 x1 y0 y1 => by
    have h1 := Int.mul_nonneg x0 y0
    have h2 := Int.mul_le_mul x1 y1 y0 (by omega)
    exact ⟨h1, by omega⟩
  have k1 := mb u.1 v.2 (by omega) (by omega) (by omega) (by omega)
  have k2 := mb v.1 u.2 (by omega) (by omega) (by omega) (by omega)
  have k3 := mb u.2 v.2 (by omega) (by omega) (by omega) (by omega)
  have k4 : 1 ≤ u.2 * v.2 := by
    have := le_mul (a := u.2) (by omega) b3
    omega
  refine ⟨by omega, k4, by omega, ?_⟩
  obtain ⟨gg, g1, e1, e2, e3⟩ := rr_eqs (u := u.1 * v.2 - v.1 * u.2) (v := u.2 * v.2) k4
  generalize rr (u.1 * v.2 - v.1 * u.2) (u.2 * v.2) = w at *
  have c1 : w.1.natAbs ≤ w.1.natAbs * gg.natAbs := Nat.le_mul_of_pos_right _ (by omega)
  have c2 : w.2.natAbs ≤ w.2.natAbs * gg.natAbs := Nat.le_mul_of_pos_right _ (by omega)
  rw [← Int.natAbs_mul, ← e1] at c1
  rw [← Int.natAbs_mul, ← e2] at c2
  have d1 : 0 < w.2 := lt_of_mul (b := gg) (by omega) (by omega)
  refine ⟨⟨by omega, by omega⟩, fun k => ?_⟩
  rcases k with k | k
  · omega
  · exact k e3
theorem t_wid (p : PP) (a : Int × Int) (ha : Ac a) (t0 t6 : Sl) (Q : Fl → Rho → Int → Prop) (X : Er → Rho → Int → Prop) (z : Int) (h : Ac (wmax G a p) → ∀ t6, Q .nx [t0, Sl.fr (prD (wmax G a p)), Sl.fr (loD G p.1), Sl.fr (liD p.1), Sl.fr (hiD' G p.2), Sl.fr (liD p.2), t6] z) :
    p0__law_dv_widest [t0, Sl.fr (prD a), Sl.fr (loD G p.1), Sl.fr (liD p.1), Sl.fr (hiD' G p.2), Sl.fr (liD p.2), t6] Q X z := by
  obtain ⟨f1, f2, f3, f4⟩ := wid_facts g p
  have m : ∀ i j : Nat, MulC (gt G i).1 (gt G j).2 ∧ MulC (gt G i).2 (gt G j).2 := fun i j => ⟨mulC_r (by have := g.d1 j; have := g.d9 j; omega), mulC_r (by have := g.d1 j; have := g.d9 j; omega)⟩
  rw [p0__law_dv_widest]
  simp [loD, hiD', prD, m]
  refine w__law_dv_ratio _ _ _ _ z (by omega) f2 ?_
  have lw := fun Q X h => w__law_dv_less a (wid G p) ha.bg f4.bg Q X z h
  have e : rat ((gt G (p.2 / 2 + 1).toNat).1 * (gt G ((p.1 + 1) / 2).toNat).2 - (gt G ((p.1 + 1) / 2).toNat).1 * (gt G (p.2 / 2 + 1).toNat).2) ((gt G (p.2 / 2 + 1).toNat).2 * (gt G ((p.1 + 1) / 2).toNat).2) = prD (wid G p) := rfl
  rw [e]
  refine lw _ _ ?_
  unfold wmax at h
  by_cases l : a.1 * (wid G p).2 < (wid G p).1 * a.2
  · rw [if_pos l] at h
    simp [l]
    exact h f4 _
  · rw [if_neg l] at h
    simp [l]
    exact h ha _
theorem t_gw (p : PP) (a : Int × Int) (ha : Ac a) (t0 t6 : Sl) (Q : Fl → Rho → Int → Prop) (X : Er → Rho → Int → Prop) (z : Int) (h : Ac (wmax G a p) → ∀ t6, Q .nx [t0, Sl.fr (prD (wmax G a p)), Sl.fr (loD G p.1), Sl.fr (liD p.1), Sl.fr (hiD' G p.2), Sl.fr (liD p.2), t6] z) :
    p0_greatest_width [t0, Sl.fr (prD a), Sl.fr (loD G p.1), Sl.fr (liD p.1), Sl.fr (hiD' G p.2), Sl.fr (liD p.2), t6] Q X z := by
  obtain ⟨f1, f2, f3, f4⟩ := wid_facts g p
  have m : ∀ i j : Nat, MulC (gt G i).1 (gt G j).2 ∧ MulC (gt G i).2 (gt G j).2 := fun i j => ⟨mulC_r (by have := g.d1 j; have := g.d9 j; omega), mulC_r (by have := g.d1 j; have := g.d9 j; omega)⟩
  rw [p0_greatest_width]
  simp [loD, hiD', prD, m]
  refine w_fraction _ _ _ _ z (by omega) (fun w => by omega) fun _ => ?_
  have cw := fun Q X h => w_compare_big (wid G p) a f4 ha Q X z h
  have e : rat ((gt G (p.2 / 2 + 1).toNat).1 * (gt G ((p.1 + 1) / 2).toNat).2 - (gt G ((p.1 + 1) / 2).toNat).1 * (gt G (p.2 / 2 + 1).toNat).2) ((gt G (p.2 / 2 + 1).toNat).2 * (gt G ((p.1 + 1) / 2).toNat).2) = prD (wid G p) := rfl
  rw [e]
  refine cw _ _ ?_
  have eo : 0 < ordF (wid G p) a ↔ a.1 * (wid G p).2 < (wid G p).1 * a.2 := by
    unfold ordF
    split
    · omega
    · split <;> omega
  unfold wmax at h
  by_cases l : a.1 * (wid G p).2 < (wid G p).1 * a.2
  · rw [if_pos l] at h
    simp [eo, l]
    exact h f4 _
  · rw [if_neg l] at h
    simp [eo, l]
    exact h ha _
theorem l_wid (body : E Fl) (t0 : Sl) (z : Int) (hb : ∀ (p : PP) (a : Int × Int), Ac a → ∀ (t6 : Sl) (Q : Fl → Rho → Int → Prop) (X : Er → Rho → Int → Prop), (Ac (wmax G a p) → ∀ t6, Q .nx [t0, Sl.fr (prD (wmax G a p)), Sl.fr (loD G p.1), Sl.fr (liD p.1), Sl.fr (hiD' G p.2), Sl.fr (liD p.2), t6] z) → body [t0, Sl.fr (prD a), Sl.fr (loD G p.1), Sl.fr (liD p.1), Sl.fr (hiD' G p.2), Sl.fr (liD p.2), t6] Q X z) :
    ∀ (R : List PP) (a : Int × Int) (t2 t3 t4 t5 t6 : Sl) (Q : Fl → Rho → Int → Prop) (X : Er → Rho → Int → Prop), Ac a → (Ac (R.foldl (wmax G) a) → ∀ t2 t3 t4 t5 t6, Q .nx [t0, Sl.fr (prD (R.foldl (wmax G) a)), t2, t3, t4, t5, t6] z) →
    forL (gTp 4 (gCn (gN 2) (gCn (gN 3) (gCn (gN 4) (gCn (gN 5) gNl))))) body (hg G R) [t0, Sl.fr (prD a), t2, t3, t4, t5, t6] Q X z := by
  intro R
  induction R with
  | nil => intro a t2 t3 t4 t5 t6 Q X ha hq; exact hq ha _ _ _ _ _
  | cons p R ih =>
    intro a t2 t3 t4 t5 t6 Q X ha hq
    rw [show hg G (p :: R) = rgD G p :: hg G R from rfl, rg_parts]
    simp only [forL_cons]
    simp
    refine hb p a ha _ _ _ fun k t6 => ?_
    simp only [forK_1]
    exact ih _ _ _ _ _ _ _ _ k hq
theorem w__law_dv_widest (R : List PP) (Q : D → Int → Prop) (X : Er → Int → Prop) (z : Int) (h : Ac (R.foldl (wmax G) (0, 1)) → Q (prD (R.foldl (wmax G) (0, 1))) z) : m__law_dv_widest [.lst (hg G R)] Q X z := by
  rw [me__law_dv_widest]
  simp [s__law_dv_widest]
  refine l_wid g p0__law_dv_widest _ z (fun p a ha t6 Q X hq => t_wid g p a ha _ t6 Q X z hq) R (0, 1) _ _ _ _ _ _ _ ⟨⟨by decide, by decide⟩, by decide⟩ fun k t2 t3 t4 t5 t6 => ?_
  simp
  exact h k
theorem w_widest (P R : List PP) (hP : ∀ q ∈ P, Vp (2 * G.length - 3) q) (hl : P.length ≤ 1000) (cR : Canon R) (eR : ∀ j, Cov R j ↔ Cov P j) (Q : D → Int → Prop) (X : Er → Int → Prop) (z : Int) (h : Ac (R.foldl (wmax G) (0, 1)) → Q (prD (R.foldl (wmax G) (0, 1))) z) : m_widest [.lst (hg G P)] Q X z := by
  rw [me_widest]
  simp [s_widest]
  refine w_checked_set g P hl hP _ _ z fun R' c e => ?_
  have : R' = R := c.uniq cR fun j => (e j).trans (eR j).symm
  subst this
  rw [me_greatest_width]
  simp [s_greatest_width]
  refine l_wid g p0_greatest_width _ z (fun p a ha t6 Q X hq => t_gw g p a ha _ t6 Q X z hq) R' (0, 1) _ _ _ _ _ _ _ ⟨⟨by decide, by decide⟩, by decide⟩ fun k t2 t3 t4 t5 t6 => ?_
  simp
  exact h k
end
end LW

namespace LW
open PySem PySem.Spec PyProof.Rows L2 DL
structure BadPc (s : Pc) : Prop where
  sm : s.Sm
  no : ¬ (s.ok ∧ s.hi.1 ≤ s.hi.2)
theorem l_check_bad (x : Sl) (b : Pc) (hb : BadPc b) (B : List D) : ∀ (A : List Pc) (t : Sl) (Q : Fl → Rho → Int → Prop) (X : Er → Rho → Int → Prop) (z : Int), (∀ s ∈ A, s.Sm ∧ s.ok ∧ s.hi.1 ≤ s.hi.2) → (∀ ρ, X ("InvalidRange", b.D) ρ z) → forL (gN 1) p0_check_ranges (A.map Pc.D ++ b.D :: B) [x, t] Q X z := by
  intro A
  induction A with
  | nil =>
    intro t Q X z _ hq
    simp only [List.map_nil, List.nil_append, forL_cons, gN_a, List.set_cons_zero, List.set_cons_succ]
    rw [p0_check_ranges]
    simp
    refine w_is_range b hb.sm _ _ z (fun k1 k2 => absurd ⟨k1, k2⟩ hb.no) fun _ => ?_
    simp
    exact hq _
  | cons s A ih =>
    intro t Q X z hs hq
    simp only [List.map_cons, List.cons_append, forL_cons, gN_a, List.set_cons_zero, List.set_cons_succ]
    rw [p0_check_ranges]
    obtain ⟨h1, h2, h3⟩ := hs s (List.mem_cons_self ..)
    simp
    refine w_is_range s h1 _ _ z (fun _ _ => ?_) fun k => absurd ⟨h2, h3⟩ k
    simp
    exact ih _ _ _ z (fun s hs' => hs s (List.mem_cons_of_mem _ hs')) hq
theorem w_check_bad (A : List Pc) (b : Pc) (B : List D) (hA : ∀ s ∈ A, s.Sm ∧ s.ok ∧ s.hi.1 ≤ s.hi.2) (hb : BadPc b) (Q : D → Int → Prop) (X : Er → Int → Prop) (z : Int) (h : X ("InvalidRange", b.D) z) : m_check_ranges [.lst (A.map Pc.D ++ b.D :: B)] Q X z := by
  rw [me_check_ranges]
  simp [s_check_ranges]
  exact l_check_bad _ b hb B A _ _ _ z hA fun _ => h
theorem w_cset_bad (A : List Pc) (b : Pc) (B : List D) (hA : ∀ s ∈ A, s.Sm ∧ s.ok ∧ s.hi.1 ≤ s.hi.2) (hb : BadPc b) (Q : List D → Int → Prop) (X : Er → Int → Prop) (z : Int) (h : X ("InvalidRange", b.D) z) : m_checked_set [.lst (A.map Pc.D ++ b.D :: B)] Q X z := by
  rw [me_checked_set]
  simp [s_checked_set]
  exact w_check_bad A b B hA hb _ _ z h
end LW

namespace LW
open PySem PySem.Spec PyProof.Rows L2 DL
def vo2 : E Fl := (sSeq (sIf (eAnd (eT (bO dEq (ePk 3) (ep (.int 0)))) (eT (bO dLt (ePk 1) (ep (.int 1000)))))
    (sPar 2 1 (aC (bO dSub (bO dMul (ePk 2) (ep (.int 911))) (ep (.int 1))) (aC (bO dMul (ePk 1) (ep (.int 911))) aN)))
    (ep .nx))
    (sRet (eCall 2 2 0 m__law_dv_ratio gL (aC (eVar 2) (aC (eVar 1) aN)) aN)))
def vo1 : E Fl := (sSeq (sPar 2 3 (aC (bO dAdd (ep (.int 1)) (eCall 2 2 0 m__law_dv_coin gL (aC (eVar 0) (aC (eVar 1) aN)) aN)) (aC (eCall 2 2 0 m__law_dv_coin gL (aC (eVar 0) (aC (ep (.int 4)) aN)) aN) aN)))
    vo2)
theorem s__law_dv_opening_eq : s__law_dv_opening = (sSeq (sAsg (bO dAdd (ep (.int 1)) (eCall 2 2 0 m__law_dv_coin gL (aC (eVar 0) (aC (bO dIx (oP (eLst (aC (ep (.int 4)) (aC (ep (.int 12)) (aC (ep (.int 900)) (aC (bO dPow (ep (.int 10)) (ep (.int 12))) aN)))))) (eCall 2 2 0 m__law_dv_coin gL (aC (eVar 0) (aC (ep (.int 4)) aN)) aN)) aN)) aN)) (gN 1))
    vo1) := rfl
def st3 : E Fl := (sSeq (sIf (eOr (eT (bO dEq (ePk 2) (ep (.int 0)))) (eT (bO dEq (bO dIx (ePk 1) (ep (.int 0))) (bO dIx (ePk 1) (ep (.int 1))))))
    (sRet (eTup (aC (bO dIx (ePk 1) (ep (.int 0))) (aC (ep (.bl true)) (aC (bO dIx (ePk 1) (ep (.int 0))) (aC (ep (.bl true)) aN))))))
    (ep .nx))
    (sSeq (sIf (eT (bO dEq (ePk 2) (ep (.int 1))))
    (sRet (eTup (aC (eTup (aC (ep (.int 0)) (aC (ep (.int 1)) aN))) (aC (ep (.bl false)) (aC (bO dIx (ePk 1) (ep (.int 1))) (aC (bO dEq (eCall 2 2 0 m__law_dv_coin gL (aC (eVar 0) (aC (ep (.int 2)) aN)) aN) (ep (.int 0))) aN))))))
    (ep .nx))
    (sSeq (sIf (eAnd (eT (bO dEq (ePk 2) (ep (.int 2)))) (eT (bO dNe (bO dIx (ePk 1) (ep (.int 0))) (eTup (aC (ep (.int 1)) (aC (ep (.int 1)) aN))))))
    (sRet (eTup (aC (bO dIx (ePk 1) (ep (.int 0))) (aC (bO dEq (eCall 2 2 0 m__law_dv_coin gL (aC (eVar 0) (aC (ep (.int 2)) aN)) aN) (ep (.int 0))) (aC (eTup (aC (ep (.int 1)) (aC (ep (.int 1)) aN))) (aC (bO dEq (eCall 2 2 0 m__law_dv_coin gL (aC (eVar 0) (aC (ep (.int 2)) aN)) aN) (ep (.int 0))) aN))))))
    (ep .nx))
    (sRet (eTup (aC (bO dIx (ePk 1) (ep (.int 0))) (aC (bO dEq (eCall 2 2 0 m__law_dv_coin gL (aC (eVar 0) (aC (ep (.int 2)) aN)) aN) (ep (.int 0))) (aC (bO dIx (ePk 1) (ep (.int 1))) (aC (bO dEq (eCall 2 2 0 m__law_dv_coin gL (aC (eVar 0) (aC (ep (.int 2)) aN)) aN) (ep (.int 0))) aN)))))))))
def st2 : E Fl := (sSeq (sAsg (eCall 2 2 0 m__law_dv_coin gL (aC (eVar 0) (aC (ep (.int 8)) aN)) aN) (gN 2))
    st3)
theorem s__law_dv_stretch_eq : s__law_dv_stretch = (sSeq (sAsg (oP (eLst (aC (eCall 1 1 0 m__law_dv_opening gL (aC (eVar 0) aN) aN) (aC (eCall 1 1 0 m__law_dv_opening gL (aC (eVar 0) aN) aN) aN)))) (gN 1))
    (sSeq (sIf (tV (eCall 2 2 0 m__law_dv_less gL (aC (bO dIx (ePk 1) (ep (.int 1))) (aC (bO dIx (ePk 1) (ep (.int 0))) aN)) aN))
    (sAsg (oP (eb (ePk 1) fRevL)) (gN 1))
    (ep .nx))
    st2)) := rfl

structure Op (x : Int × Int) : Prop where
  fo : Fo x
  pos : 1 ≤ x.1
theorem op_rr {u v : Int} (u0 : 1 ≤ u) (uv : u ≤ v) (v9 : v ≤ 10 ^ 12) : Op (rr u v) := by
  have f := rr_fr (u := u) (v := v) (m := 10 ^ 12) (by omega) (by omega) (by omega) v9
  have p := rr_pos (u := u) (v := v) (by omega) (by omega)
  obtain ⟨gg, g1, e1, e2, e3⟩ := rr_eqs (u := u) (v := v) (by omega)
  refine ⟨⟨f, ?_⟩, by omega⟩
  exact Int.le_of_mul_le_mul_right (a := gg) (by omega) (by omega)
theorem vo2_ok (b u n : Int) (b0 : 1 ≤ b) (b1 : b ≤ 10 ^ 12) (u0 : 1 ≤ u) (u1 : u ≤ b) (t0 : Sl) (Q : D → Int → Prop) (X : Er → Rho → Int → Prop) (z : Int) (h : ∀ x, Op x → Q (prD x) z) : vo2 [t0, Sl.fr (.int b), Sl.fr (.int u), Sl.fr (.int n)] (outF Q) X z := by
  have m1 : MulC u 911 := mulC_r (by omega)
  have m2 : MulC b 911 := mulC_r (by omega)
  simp [vo2, m1, m2]
  refine ⟨fun _ => ⟨fun k => ?_, fun k => ?_⟩, fun _ => ?_⟩
  all_goals
    refine w__law_dv_ratio _ _ _ _ z (by omega) (by omega) ?_
    rw [rat_rr]
    exact h _ (op_rr (by omega) (by omega) (by omega))
theorem w__law_dv_opening (Q : D → Int → Prop) (X : Er → Int → Prop) (z : Int) (hz : z < 10 ^ 16) (h : ∀ x z', Op x → z' ≤ z + 4 → Q (prD x) z') : m__law_dv_opening [.cel] Q X z := by
  rw [me__law_dv_opening, s__law_dv_opening_eq]
  simp
  refine w__law_dv_coin 4 _ _ z (by omega) (by omega) (by omega) fun c z1 c0 c1 hz1 => ?_
  simp
  refine atI_all _ _ c0 (by simpa using c1) _ ?_
  have all : ∀ n : Int, 1 ≤ n → n ≤ 10 ^ 12 → ∀ X0, m__law_dv_coin [.cel, .int n] (fun a z' => dAdd (.int 1) a fun b => vo1 [Sl.fr .cel, Sl.fr b, .no, .no] (outF Q) (fun e x z => X e z) z') X0 z1 := fun n n0 n1 X0 => by
    refine w__law_dv_coin n _ _ z1 (by omega) (by omega) (by omega) fun m z2 m0 m1 hz2 => ?_
    simp only [dAdd_1]
    simp [vo1]
    refine w__law_dv_coin _ _ _ z2 (by omega) (by omega) (by omega) fun u z3 u0 u1 hz3 => ?_
    simp
    refine w__law_dv_coin 4 _ _ z3 (by omega) (by omega) (by omega) fun e z4 e0 e1 hz4 => ?_
    exact vo2_ok _ _ _ (by omega) (by omega) (by omega) (by omega) _ Q _ z4 fun x hx => h x z4 hx (by omega)
  simp
  exact ⟨all 4 (by omega) (by omega) _, all 12 (by omega) (by omega) _, all 900 (by omega) (by omega) _, all 1000000000000 (by omega) (by omega) _⟩
theorem Op.bg {x : Int × Int} (h : Op x) : bg x := by
  have a := h.fo.fr.n0
  have b := h.fo.fr.d1
  have c := h.fo.fr.n9
  have e := h.fo.fr.d9
  exact ⟨by omega, by omega⟩
theorem fo0 : Fo (0, 1) := ⟨⟨by decide, by decide, by decide, by decide, by decide⟩, by decide⟩
theorem fo1 : Fo (1, 1) := ⟨⟨by decide, by decide, by decide, by decide, by decide⟩, by decide⟩
theorem good_lt {a b : Int × Int} (ha : Fo a) (hb : Fo b) (li hf : Bool) (n0 : ¬ (a.1 = 0 ∧ li = true)) (l : a.1 * b.2 < b.1 * a.2) : GoodPc ⟨a, li, b, hf⟩ := ⟨⟨ha.fr.bad, hb.fr.bad, ha.fr.n0, n0, .inl l⟩, ha, hb⟩
theorem good_pt {a : Int × Int} (ha : Op a) : GoodPc ⟨a, true, a, true⟩ := ⟨⟨ha.fo.fr.bad, ha.fo.fr.bad, ha.fo.fr.n0, fun k => by have := ha.pos; have k1 : a.1 = 0 := k.1; omega, .inr ⟨rfl, rfl, rfl⟩⟩, ha.fo, ha.fo⟩
theorem st3_ok (a b : Int × Int) (ha : Op a) (hb : Op b) (le : a.1 * b.2 ≤ b.1 * a.2) (w : Int) (Q : D → Int → Prop) (X : Er → Rho → Int → Prop) (z : Int) (hz : z < 10 ^ 17) (h : ∀ (s : Pc) z', GoodPc s → z' ≤ z + 2 → Q s.D z') : st3 [Sl.fr .cel, Sl.fr (.lst [prD a, prD b]), Sl.fr (.int w)] (outF Q) X z := by
  have a0 := ha.pos
  have b0 := hb.pos
  have an : ∀ li : Bool, ¬ (a.1 = 0 ∧ li = true) := fun li k => by omega
  have pt := h _ z (good_pt ha) (by omega)
  have k0 : ∀ f z', z' ≤ z + 2 → Q (Pc.D ⟨(0, 1), false, b, f⟩) z' := fun f z' hz' => h _ z' (good_lt fo0 hb.fo _ _ (fun k => nomatch k.2) (by simp; omega)) hz'
  have k1 : ¬ a = (1, 1) → ∀ f f' z', z' ≤ z + 2 → Q (Pc.D ⟨a, f, (1, 1), f'⟩) z' := fun n f f' z' hz' => h _ z' (good_lt ha.fo fo1 _ _ (an _) (by
    have := ha.fo.le
    simp
    rcases Int.lt_or_eq_of_le this with u | u
    · exact u
    · exfalso
      have gg := ha.fo.fr.g
      rw [u, Int.gcd_self] at gg
      exact n (by rw [show a = (a.1, a.2) from rfl, u, show a.2 = 1 by omega]))) hz'
  have k2 : ¬ a = b → ∀ f f' z', z' ≤ z + 2 → Q (Pc.D ⟨a, f, b, f'⟩) z' := fun n f f' z' hz' => h _ z' (good_lt ha.fo hb.fo _ _ (an _) (by
    rcases Int.lt_or_eq_of_le le with u | u
    · exact u
    · exact absurd (ha.fo.fr.eq hb.fo.fr u) n)) hz'
  obtain ⟨a1, a2⟩ := a
  obtain ⟨b1, b2⟩ := b
  have eab : ((a1, a2) = (b1, b2)) ↔ (a1 = b1 ∧ a2 = b2) := by simp
  have ea1 : ((a1, a2) = ((1 : Int), (1 : Int))) ↔ (a1 = 1 ∧ a2 = 1) := by simp
  rw [eab] at k2
  rw [ea1] at k1
  simp only [Pc.D, prD] at pt k0 k1 k2
  by_cases w0 : w = 0
  · simp [st3, w0, prD]
    exact pt
  · by_cases e : a1 = b1 ∧ a2 = b2
    · simp [st3, w0, prD, e]
      rw [e.1, e.2] at pt
      exact pt
    · by_cases w1 : w = 1
      · simp [st3, prD, w1, e]
        refine w__law_dv_coin 2 _ _ z (by omega) (by omega) (by omega) fun f z1 _ _ hz1 => ?_
        simp
        exact k0 _ _ (by omega)
      · by_cases w2 : w = 2 ∧ ¬ (a1 = 1 ∧ a2 = 1)
        · obtain ⟨w2, n1⟩ := w2
          simp [st3, prD, w2, e, n1]
          refine w__law_dv_coin 2 _ _ z (by omega) (by omega) (by omega) fun f z1 _ _ hz1 => ?_
          simp
          refine w__law_dv_coin 2 _ _ z1 (by omega) (by omega) (by omega) fun f' z2 _ _ hz2 => ?_
          simp
          exact k1 n1 _ _ _ (by omega)
        · have last : m__law_dv_coin [.cel, .int 2] (fun x z' => dEqB x (.int 0) fun t => m__law_dv_coin [.cel, .int 2] (fun y z'' => dEqB y (.int 0) fun t' => Q (.tup [.tup [.int a1, .int a2], .bl t, .tup [.int b1, .int b2], .bl t']) z'') (fun e z' => X e [Sl.fr .cel, Sl.fr (.lst [.tup [.int a1, .int a2], .tup [.int b1, .int b2]]), Sl.fr (.int w)] z') z') (fun e z' => X e [Sl.fr .cel, Sl.fr (.lst [.tup [.int a1, .int a2], .tup [.int b1, .int b2]]), Sl.fr (.int w)] z') z := by
            refine w__law_dv_coin 2 _ _ z (by omega) (by omega) (by omega) fun f z1 _ _ hz1 => ?_
            simp
            refine w__law_dv_coin 2 _ _ z1 (by omega) (by omega) (by omega) fun f' z2 _ _ hz2 => ?_
            simp
            exact k2 e _ _ _ (by omega)
          by_cases w2' : w = 2
          · have o : a1 = 1 ∧ a2 = 1 := Classical.byContradiction fun n => w2 ⟨w2', n⟩
            rw [w2'] at last
            obtain ⟨rfl, rfl⟩ := o
            simp [st3, prD, w2', e]
            exact last
          · simp [st3, prD, w0, w1, w2', e]
            exact last
theorem w__law_dv_stretch (Q : D → Int → Prop) (X : Er → Int → Prop) (z : Int) (hz : z < 10 ^ 15) (h : ∀ (s : Pc) z', GoodPc s → z' ≤ z + 11 → Q s.D z') : m__law_dv_stretch [.cel] Q X z := by
  rw [me__law_dv_stretch, s__law_dv_stretch_eq]
  simp
  refine w__law_dv_opening _ _ z (by omega) fun a z1 ha hz1 => ?_
  refine w__law_dv_opening _ _ z1 (by omega) fun b z2 hb hz2 => ?_
  refine w__law_dv_less b a hb.bg ha.bg _ _ z2 ?_
  have fin : ∀ a b : Int × Int, Op a → Op b → a.1 * b.2 ≤ b.1 * a.2 → ∀ X, st2 [Sl.fr .cel, Sl.fr (.lst [prD a, prD b]), .no] (outF Q) X z2 := fun a b ha hb le X => by
    simp [st2]
    refine w__law_dv_coin 8 _ _ z2 (by omega) (by omega) (by omega) fun w z3 w0 w1 hz3 => ?_
    exact st3_ok a b ha hb le w Q X z3 (by omega) fun s z' hs hz' => h s z' hs (by omega)
  simp
  exact ⟨fun l => fin b a hb ha (by omega) _, fun l => fin a b ha hb l _⟩
end LW

namespace LW
open PySem PySem.Spec PyProof.Rows L2 DL
def vb7 : E Fl := (sRet (bO dIx (ePk 1) (eCall 2 2 0 m__law_dv_coin gL (aC (eVar 0) (aC (uO dLen (ePk 1)) aN)) aN)))
def vb6 : E Fl := (sSeq (sIf (eT (bO dNe (ePk 2) (ePk 3)))
    (sSeq (sAsg (oP (eIf (tV (eCall 2 2 0 m__law_dv_less gL (aC (eVar 3) (aC (eVar 2) aN)) aN)) (eLst (aC (eVar 2) (aC (eVar 3) aN))) (eLst (aC (eVar 3) (aC (eVar 2) aN))))) (gN 4))
    (sApp 1 (eTup (aC (bO dIx (ePk 4) (ep (.int 0))) (aC (ep (.bl true)) (aC (bO dIx (ePk 4) (ep (.int 1))) (aC (ep (.bl true)) aN)))))))
    (ep .nx))
    vb7)
def vb1 : E Fl := (sSeq (sAsgO (eLst (aC (eTup (aC (eTup (aC (ep (.int 0)) (aC (ep (.int 1)) aN))) (aC (ep (.bl true)) (aC (eVar 2) (aC (ep (.bl true)) aN))))) (aC (eTup (aC (eTup (aC (ep (.int 0)) (aC (ep (.int 1)) aN))) (aC (ep (.bl true)) (aC (eTup (aC (ep (.int 0)) (aC (ep (.int 1)) aN))) (aC (ep (.bl true)) aN))))) (aC (eTup (aC (eTup (aC (ep (.int 0)) (aC (ep (.int 1)) aN))) (aC (ep (.bl false)) (aC (eTup (aC (ep (.int 0)) (aC (ep (.int 1)) aN))) (aC (ep (.bl false)) aN))))) aN)))) 1)
    (sSeq (sAsgO (bC (ePk 1) (oP (eLst (aC (eTup (aC (eVar 2) (aC (ep (.bl false)) (aC (eVar 2) (aC (ep (.bl true)) aN))))) (aC (eTup (aC (eVar 2) (aC (ep (.bl true)) (aC (eVar 2) (aC (ep (.bl false)) aN))))) (aC (eTup (aC (eVar 2) (aC (ep (.bl false)) (aC (eVar 2) (aC (ep (.bl false)) aN))))) aN)))))) 1)
    (sSeq (sAsgO (bC (ePk 1) (oP (eLst (aC (eTup (aC (eVar 2) (aC (ep (.bl true)) (aC (eTup (aC (bO dAdd (bO dIx (ePk 2) (ep (.int 0))) (bO dIx (ePk 2) (ep (.int 1)))) (aC (bO dIx (ePk 2) (ep (.int 1))) aN))) (aC (ep (.bl true)) aN))))) (aC (eTup (aC (eTup (aC (ep (.int 2)) (aC (ep (.int 4)) aN))) (aC (ep (.bl true)) (aC (eTup (aC (ep (.int 1)) (aC (ep (.int 1)) aN))) (aC (ep (.bl true)) aN))))) aN))))) 1)
    (sSeq (sAsgO (bC (ePk 1) (oP (eLst (aC (eTup (aC (eTup (aC (ep (.int 0)) (aC (ep (.int 1)) aN))) (aC (ep (.bl false)) (aC (eTup (aC (ep (.int 2)) (aC (ep (.int 2)) aN))) (aC (ep (.bl true)) aN))))) (aC (eTup (aC (eTup (aC (ep (.int 0)) (aC (ep (.int 2)) aN))) (aC (ep (.bl false)) (aC (eTup (aC (ep (.int 1)) (aC (ep (.int 1)) aN))) (aC (ep (.bl true)) aN))))) (aC (eTup (aC (eTup (aC (bO dSub (ep (.int 0)) (ep (.int 1))) (aC (ep (.int 3)) aN))) (aC (ep (.bl false)) (aC (eVar 2) (aC (ep (.bl true)) aN))))) aN)))))) 1)
    (sSeq (sAsgO (bC (ePk 1) (oP (eLst (aC (eTup (aC (eVar 2) (aC (ep (.bl true)) (aC (eTup (aC (ep (.int 3)) (aC (ep (.int 0)) aN))) (aC (ep (.bl true)) aN))))) (aC (eTup (aC (eTup (aC (ep (.int 1)) (aC (bO dSub (ep (.int 0)) (ep (.int 2))) aN))) (aC (ep (.bl true)) (aC (eVar 2) (aC (ep (.bl true)) aN))))) (aC (eTup (aC (eTup (aC (ep (.int 0)) (aC (ep (.int 0)) aN))) (aC (ep (.bl false)) (aC (eVar 2) (aC (ep (.bl true)) aN))))) aN)))))) 1)
    vb6)))))
theorem s__law_dv_bad_stretch_eq : s__law_dv_bad_stretch = (sSeq (sPar 2 3 (aC (eCall 1 1 0 m__law_dv_opening gL (aC (eVar 0) aN) aN) (aC (eCall 1 1 0 m__law_dv_opening gL (aC (eVar 0) aN) aN) aN)))
    vb1) := rfl

theorem vb7_ok (ms : List D) (hl : ms ≠ []) (hs : ms.length ≤ 100) (hm : ∀ d ∈ ms, ∃ s, BadPc s ∧ d = s.D) (t2 t3 t4 : Sl) (Q : D → Int → Prop) (X : Er → Rho → Int → Prop) (z : Int) (hz : z < 10 ^ 17) (h : ∀ (s : Pc) z', BadPc s → z' ≤ z + 1 → Q s.D z') : vb7 [Sl.fr .cel, Sl.own ms, t2, t3, t4] (outF Q) X z := by
  have pos : 0 < ms.length := List.length_pos_iff.mpr hl
  simp [vb7]
  refine w__law_dv_coin _ _ _ z (by omega) (by omega) (by omega) fun c z1 c0 c1 hz1 => ?_
  simp
  refine atI_all _ _ c0 c1 _ fun d hd => ?_
  obtain ⟨s, hs, rfl⟩ := hm d hd
  exact h s z1 hs hz1
theorem badpc (p q r s : Int) (li hf : Bool) (a1 : p.natAbs ≤ 10 ^ 15) (a2 : q.natAbs ≤ 10 ^ 15) (a3 : r.natAbs ≤ 10 ^ 15) (a4 : s.natAbs ≤ 10 ^ 15) (n : ¬ ((⟨(p, q), li, (r, s), hf⟩ : Pc).ok ∧ r ≤ s)) : ∃ c, BadPc c ∧ (.tup [.tup [.int p, .int q], .bl li, .tup [.int r, .int s], .bl hf] : D) = c.D :=
  ⟨⟨(p, q), li, (r, s), hf⟩, ⟨⟨⟨by show p.natAbs ≤ _; omega, by show q.natAbs ≤ _; omega⟩, by show r.natAbs ≤ _; omega, by show s.natAbs ≤ _; omega⟩, n⟩, rfl⟩
theorem vb6_ok (ms : List D) (hl : ms ≠ []) (hs : ms.length ≤ 50) (hm : ∀ d ∈ ms, ∃ s, BadPc s ∧ d = s.D) (p q r s : Int) (a0 : 1 ≤ p) (a9 : p ≤ 10 ^ 12) (a1 : 1 ≤ q) (a8 : q ≤ 10 ^ 12) (b0 : 1 ≤ r) (b9 : r ≤ 10 ^ 12) (b1 : 1 ≤ s) (b8 : s ≤ 10 ^ 12)
    (la : ∀ (Q : D → Int → Prop) (X : Er → Int → Prop) (z : Int), Q (.bl (decide (r * q < p * s))) z → m__law_dv_less [.tup [.int r, .int s], .tup [.int p, .int q]] Q X z) (tri : p * s = r * q → (p, q) = (r, s)) (Q : D → Int → Prop) (X : Er → Rho → Int → Prop) (z : Int) (hz : z < 10 ^ 17) (h : ∀ (s : Pc) z', BadPc s → z' ≤ z + 1 → Q s.D z') : vb6 [Sl.fr .cel, Sl.own ms, Sl.fr (.tup [.int p, .int q]), Sl.fr (.tup [.int r, .int s]), .no] (outF Q) X z := by
  have key : ∀ a b c e : Int, 1 ≤ a → a ≤ 10 ^ 12 → 1 ≤ b → b ≤ 10 ^ 12 → 1 ≤ c → c ≤ 10 ^ 12 → 1 ≤ e → e ≤ 10 ^ 12 → c * b < a * e → ∀ t4, vb7 [Sl.fr .cel, Sl.own (ms ++ [.tup [.tup [.int a, .int b], .bl true, .tup [.int c, .int e], .bl true]]), Sl.fr (.tup [.int p, .int q]), Sl.fr (.tup [.int r, .int s]), t4] (outF Q) X z := fun a b c e x1 x2 x3 x4 x5 x6 x7 x8 l t4 => by
    refine vb7_ok _ (by simp) (by simp; omega) (fun d hd => ?_) _ _ _ Q X z hz h
    rcases List.mem_append.mp hd with k | k
    · exact hm d k
    · rw [List.mem_singleton] at k
      subst k
      refine badpc _ _ _ _ _ _ (by omega) (by omega) (by omega) (by omega) fun n => ?_
      have := n.1.2.2.2.2
      simp only at this
      omega
  simp [vb6]
  by_cases e : p = r ∧ q = s
  · simp [e]
    have := vb7_ok ms hl (by omega) hm (Sl.fr (.tup [.int p, .int q])) (Sl.fr (.tup [.int r, .int s])) .no Q X z hz h
    rwa [e.1, e.2] at this
  · refine ⟨fun _ => ?_, fun u v => absurd ⟨u, v⟩ e⟩
    refine la _ _ z ?_
    by_cases l : r * q < p * s
    · simp [l]
      exact ⟨by omega, key p q r s a0 a9 a1 a8 b0 b9 b1 b8 l _⟩
    · have l' : p * s < r * q := by
        rcases Int.lt_trichotomy (p * s) (r * q) with u | u | u
        · exact u
        · have := tri u
          injection this with u1 u2
          exact absurd ⟨u1, u2⟩ e
        · exact absurd u l
      simp [l]
      exact ⟨by omega, key r s p q b0 b9 b1 b8 a0 a9 a1 a8 l' _⟩
theorem w__law_dv_bad_stretch (Q : D → Int → Prop) (X : Er → Int → Prop) (z : Int) (hz : z < 10 ^ 15) (h : ∀ (s : Pc) z', BadPc s → z' ≤ z + 9 → Q s.D z') : m__law_dv_bad_stretch [.cel] Q X z := by
  rw [me__law_dv_bad_stretch, s__law_dv_bad_stretch_eq]
  simp
  refine w__law_dv_opening _ _ z (by omega) fun a z1 ha hz1 => ?_
  refine w__law_dv_opening _ _ z1 (by omega) fun b z2 hb hz2 => ?_
  have la := w__law_dv_less b a hb.bg ha.bg
  have a0 := ha.pos
  have a9 := ha.fo.fr.n9
  have a1 := ha.fo.fr.d1
  have a8 := ha.fo.fr.d9
  have b0 := hb.pos
  have b9 := hb.fo.fr.n9
  have b1 := hb.fo.fr.d1
  have b8 := hb.fo.fr.d9
  have tri := fun e => ha.fo.fr.eq hb.fo.fr e
  obtain ⟨p, q⟩ := a
  obtain ⟨r, s⟩ := b
  simp only at a0 a9 a1 a8 b0 b9 b1 b8 tri
  simp [vb1, prD]
  have base : ∀ d ∈ [D.tup [D.tup [.int 0, .int 1], .bl true, .tup [.int p, .int q], .bl true], .tup [.tup [.int 0, .int 1], .bl true, .tup [.int 0, .int 1], .bl true], .tup [.tup [.int 0, .int 1], .bl false, .tup [.int 0, .int 1], .bl false],
      .tup [.tup [.int p, .int q], .bl false, .tup [.int p, .int q], .bl true], .tup [.tup [.int p, .int q], .bl true, .tup [.int p, .int q], .bl false], .tup [.tup [.int p, .int q], .bl false, .tup [.int p, .int q], .bl false],
      .tup [.tup [.int p, .int q], .bl true, .tup [.int (p + q), .int q], .bl true], .tup [.tup [.int 2, .int 4], .bl true, .tup [.int 1, .int 1], .bl true],
      .tup [.tup [.int 0, .int 1], .bl false, .tup [.int 2, .int 2], .bl true], .tup [.tup [.int 0, .int 2], .bl false, .tup [.int 1, .int 1], .bl true], .tup [.tup [.int (-1), .int 3], .bl false, .tup [.int p, .int q], .bl true],
      .tup [.tup [.int p, .int q], .bl true, .tup [.int 3, .int 0], .bl true], .tup [.tup [.int 1, .int (-2)], .bl true, .tup [.int p, .int q], .bl true], .tup [.tup [.int 0, .int 0], .bl false, .tup [.int p, .int q], .bl true]], ∃ s, BadPc s ∧ d = s.D := fun d hd => by
    simp only [List.mem_cons, List.not_mem_nil, or_false] at hd
    rcases hd with rfl | rfl | rfl | rfl | rfl | rfl | rfl | rfl | rfl | rfl | rfl | rfl | rfl | rfl
    all_goals refine badpc _ _ _ _ _ _ (by omega) (by omega) (by omega) (by omega) fun n => ?_
    · have := n.1.2.2.2.1; simp at this
    · have := n.1.2.2.2.1; simp at this
    · have := n.1.2.2.2.2; simp at this
    · have := n.1.2.2.2.2; simp at this
    · have := n.1.2.2.2.2; simp at this
    · have := n.1.2.2.2.2; simp at this
    · omega
    · exact n.1.1 (by decide)
    · exact n.1.2.1 (by decide)
    · exact n.1.1 (by decide)
    · have := n.1.2.2.1; simp at this
    · exact n.1.2.1 (.inl (show (0 : Int) < 1 by decide))
    · exact n.1.1 (.inl (show (-2 : Int) < 1 by decide))
    · exact n.1.1 (.inl (show (0 : Int) < 1 by decide))
  exact vb6_ok _ (by simp) (by simp) base p q r s a0 a9 a1 a8 b0 b9 b1 b8 la tri Q _ z2 (by omega) fun s z' hs hz' => h s z' hs (by omega)
end LW

namespace LW
open PySem PySem.Spec PyProof.Rows L2 DL
def hndW : Addr → Addr → Str → E Fl := (fun ea ex nm => (sSeq (sAsg (eOrV (eIsX 3 ea ex nm is_InvalidFraction) (uO dNot (eIsX 3 ea ex nm is_ValueError))) (gN 4))
    (sAsg (oP (eLst (aC (ep (.str "raised")) (aC (eAndV (eIsX 3 ea ex nm is_InvalidRange) (uO dNot (ePk 4))) (aC (eExv 3 ea ex) aN))))) (gN 2))))
theorem caught_eq : s__law_dv_width_caught = (sSeq (sAsg (oP (eLst aN)) (gN 2))
    (sSeq (sTry 3
    (sAsg (oP (eLst (aC (eIf (eT (bO dEq (ePk 1) (ep (.int 0)))) (eCall 1 1 0 m_widest gL (aC (eVar 0) aN) aN) (eCall 1 0 1 m_widest (gP [0]) aN (aC (eVar 0) aN))) aN))) (gN 2))
    ex_DividerError hndW)
    (sRet (eVar 2)))) := rfl
theorem w_widest_bad (A : List Pc) (b : Pc) (B : List D) (hA : ∀ s ∈ A, s.Sm ∧ s.ok ∧ s.hi.1 ≤ s.hi.2) (hb : BadPc b) (Q : D → Int → Prop) (X : Er → Int → Prop) (z : Int) (h : X ("InvalidRange", b.D) z) : m_widest [.lst (A.map Pc.D ++ b.D :: B)] Q X z := by
  rw [me_widest]
  simp [s_widest]
  exact w_cset_bad A b B hA hb _ _ z h
theorem caught_good (a : D) (w : Int) (v : D) (Q : D → Int → Prop) (X : Er → Int → Prop) (z : Int) (hw : ∀ Q X, Q v z → m_widest [a] Q X z) (h : Q (.lst [v]) z) : m__law_dv_width_caught [a, .int w] Q X z := by
  rw [me__law_dv_width_caught, caught_eq]
  simp
  refine hw _ _ ?_
  exact h
theorem caught_bad (a : D) (w : Int) (v : D) (Q : D → Int → Prop) (X : Er → Int → Prop) (z : Int) (hw : ∀ Q X, X ("InvalidRange", v) z → m_widest [a] Q X z) (h : Q (.lst [.str "raised", .bl true, v]) z) : m__law_dv_width_caught [a, .int w] Q X z := by
  rw [me__law_dv_width_caught, caught_eq]
  have t1 : ex_DividerError "InvalidRange" = some true := by decide +kernel
  have t2 : is_InvalidFraction "InvalidRange" = some false := by decide +kernel
  have t3 : is_InvalidRange "InvalidRange" = some true := by decide +kernel
  have t4 : is_ValueError "InvalidRange" = some true := by decide +kernel
  simp
  refine hw _ _ ?_
  simp [t1]
  intro a x
  simp [hndW, t2, t3, t4]
  exact h
def wr8 : E Fl := (sSeq (sAsg (oP (eLst (aC (ep (.str "raised")) (aC (ep (.bl true)) (aC (bO dIx (ePk 4) (ep (.int 0))) aN))))) (gN 3))
    (sRet (bO dEq (eRoll (uO dRepr (eCall 2 2 0 m__law_dv_width_caught gL (aC (eVar 5) (aC (eCall 2 2 0 m__law_dv_coin gL (aC (eVar 0) (aC (ep (.int 2)) aN)) aN) aN)) aN))) (uO dRepr (ePk 3)))))
def wr5 : E Fl := (sSeq (sParFO 6 5 (eCall 2 2 0 m__law_dv_coin gL (aC (eVar 0) (aC (bO dAdd (uO dLen (ePk 1)) (ep (.int 1))) aN)) aN) (eb (ePk 1) fList))
    (sSeq (sIns 5 (aC (eVar 6) (aC (bO dIx (ePk 4) (ep (.int 0))) aN)))
    (sSeq (sIns 5 (aC (bO dAdd (bO dAdd (ePk 6) (ep (.int 1))) (eCall 2 2 0 m__law_dv_coin gL (aC (eVar 0) (aC (bO dSub (uO dLen (ePk 5)) (ePk 6)) aN)) aN)) (aC (bO dIx (ePk 4) (ep (.int 1))) aN)))
    wr8)))
def wr4 : E Fl := (sSeq (sAsg (oP (eLst (aC (eCall 1 1 0 m__law_dv_bad_stretch gL (aC (eVar 0) aN) aN) (aC (eCall 1 1 0 m__law_dv_bad_stretch gL (aC (eVar 0) aN) aN) aN)))) (gN 4))
    wr5)
def wr2 : E Fl := (sSeq (sAsg (oP (eLst (aC (eRoll (eCall 1 1 0 m__law_dv_widest gL (aC (eCall 1 1 0 m__law_dv_union gL (aC (eVar 1) aN) aN) aN) aN)) aN))) (gN 3))
    (sSeq (sFor (eb (aC (ep (.int 2)) aN) fRng1) (gN 2) p0__law_dv_width_right)
    wr4))
def wr1 : E Fl := (sSeq (sFor (eb (aC (eCall 2 2 0 m__law_dv_coin gL (aC (eVar 0) (aC (bO dIx (oP (eLst (aC (ep (.int 10)) (aC (ep (.int 10)) (aC (ep (.int 90)) aN))))) (eCall 2 2 0 m__law_dv_coin gL (aC (eVar 0) (aC (ep (.int 3)) aN)) aN)) aN)) aN) aN) fRng1) (gN 2) p1__law_dv_width_right)
    wr2)
theorem s__law_dv_width_right_eq : s__law_dv_width_right = (sSeq (sAsgO (eLst aN) 1)
    wr1) := rfl

theorem GoodPc.g3 {s : Pc} (h : GoodPc s) : s.Sm ∧ s.ok ∧ s.hi.1 ≤ s.hi.2 := ⟨⟨h.lo.fr.smm (by omega), h.hi.fr.smm (by omega)⟩, h.ok, h.hi.le⟩
theorem pcD_okS {s : Pc} (h : s.Sm) : (s.D).okS := by
  obtain ⟨⟨h1, h2⟩, h3, h4⟩ := h
  exact ⟨⟨by show s.lo.1.natAbs < 2 ^ 200; omega, by show s.lo.2.natAbs < 2 ^ 200; omega, trivial⟩, trivial, ⟨by show s.hi.1.natAbs < 2 ^ 200; omega, by show s.hi.2.natAbs < 2 ^ 200; omega, trivial⟩, trivial, trivial⟩
theorem raised_ok {s : Pc} (h : s.Sm) : reprOk (.lst [.str "raised", .bl true, s.D]) :=
  reprOk_of ⟨strS (by decide +kernel), trivial, pcD_okS h, trivial⟩ (by simp [D.dep, depL, prD, Pc.D]) (by simp [D.blk, blkL, prD, Pc.D]; decide)
theorem one_ok {p : Int × Int} (h : Ac p) : reprOk (.lst [prD p]) :=
  reprOk_of ⟨⟨by have := h.b.1; show p.1.natAbs < 2 ^ 200; omega, by have := h.b.2; show p.2.natAbs < 2 ^ 200; omega, trivial⟩, trivial⟩ (by simp [D.dep, depL, prD]) (by simp [D.blk, blkL, prD])
/-- one more draw of ranges -/
theorem t_build (S : List Pc) (hS : ∀ s ∈ S, GoodPc s) (hl : S.length ≤ 10000) (t2 t3 t4 t5 t6 t7 t8 : Sl) (Q : Fl → Rho → Int → Prop) (X : Er → Rho → Int → Prop) (z : Int) (hz : z < 10 ^ 14)
    (h : ∀ (S' : List Pc) t7 t8 z', (∀ s ∈ S', GoodPc s) → S'.length ≤ S.length + 2 → z' ≤ z + 20 → Q .nx [Sl.fr .cel, Sl.own (S'.map Pc.D), t2, t3, t4, t5, t6, t7, t8] z') : p1__law_dv_width_right [Sl.fr .cel, Sl.own (S.map Pc.D), t2, t3, t4, t5, t6, t7, t8] Q X z := by
  rw [p1__law_dv_width_right]
  simp
  refine w__law_dv_stretch _ _ z (by omega) fun s z1 hs hz1 => ?_
  have g1 : ∀ x ∈ S ++ [s], GoodPc x := fun x hx => by
    rcases List.mem_append.mp hx with k | k
    · exact hS x k
    · rw [List.mem_singleton] at k; subst k; exact hs
  have e1 : S.map Pc.D ++ [s.D] = (S ++ [s]).map Pc.D := by simp
  refine ⟨by omega, ?_⟩
  refine w__law_dv_coin 3 _ _ z1 (by omega) (by omega) (by omega) fun c z2 c0 c1 hz2 => ?_
  have stop := fun t7 t8 z' hz' => h (S ++ [s]) t7 t8 z' g1 (by simp) hz'
  simp only [← e1] at stop
  have hfo := hs.hi
  have go : ¬ (s.hi.1 = 1 ∧ s.hi.2 = 1) → ∀ f f', GoodPc ⟨s.hi, f, (1, 1), f'⟩ := fun n f f' => by
    have hp : 0 < s.hi.1 := by
      have ok := s.lo.1
      have o5 := hs.ok.2.2.2.2
      have o3 := hs.ok.2.2.1
      have o4 := hs.ok.2.2.2.1
      have d1 := hs.lo.fr.d1
      have d2 := hs.hi.fr.d1
      rcases o5 with k | ⟨k, k1, k2⟩
      · have := Int.mul_nonneg o3 (show 0 ≤ s.hi.2 by omega)
        have e0 : 0 * s.lo.2 < s.hi.1 * s.lo.2 := by omega
        exact Int.lt_of_mul_lt_mul_right e0 (by omega)
      · have lp : 0 < s.lo.1 := by
          have : ¬ s.lo.1 = 0 := fun w => o4 ⟨w, k1⟩
          omega
        have := Int.mul_pos lp (show 0 < s.hi.2 by omega)
        have e0 : 0 * s.lo.2 < s.hi.1 * s.lo.2 := by omega
        exact Int.lt_of_mul_lt_mul_right e0 (by omega)
    refine good_lt hfo fo1 _ _ (fun k => by have := k.1; omega) ?_
    have le := hfo.le
    simp
    rcases Int.lt_or_eq_of_le le with u | u
    · exact u
    · exfalso
      have gg := hfo.fr.g
      have dd := hfo.fr.d1
      rw [u, Int.gcd_self] at gg
      exact n ⟨by omega, by omega⟩
  have d2 : ∀ K : D → Prop, dIx s.D (.int 2) K = K (.tup [.int s.hi.1, .int s.hi.2]) := fun K => by simp [Pc.D, prD]
  by_cases cz : c = 0
  · by_cases n : s.hi.1 = 1 ∧ s.hi.2 = 1
    · simp [cz, d2, n]
      exact stop _ _ z2 (by omega)
    · simp [cz, d2]
      have fin : m__law_dv_coin [.cel, .int 2] (fun x z' => dEqB x (.int 0) fun t => m__law_dv_coin [.cel, .int 2] (fun y z'' => dEqB y (.int 0) fun t' => S.length + 1 < 16777216 ∧ Q .nx [Sl.fr .cel, Sl.own (S.map Pc.D ++ [s.D, .tup [.tup [.int s.hi.1, .int s.hi.2], .bl t, .tup [.int 1, .int 1], .bl t']]), t2, t3, t4, t5, t6, Sl.fr (.tup [.int s.hi.1, .int s.hi.2]), Sl.fr (.bl t)] z'') (fun e z' => X e [Sl.fr .cel, Sl.own (S.map Pc.D ++ [s.D]), t2, t3, t4, t5, t6, Sl.fr (.tup [.int s.hi.1, .int s.hi.2]), Sl.fr (.bl t)] z') z') (fun e z' => X e [Sl.fr .cel, Sl.own (S.map Pc.D ++ [s.D]), t2, t3, t4, t5, t6, t7, t8] z') z2 := by
        refine w__law_dv_coin 2 _ _ z2 (by omega) (by omega) (by omega) fun f z3 _ _ hz3 => ?_
        simp only [dEqB_1]
        refine w__law_dv_coin 2 _ _ z3 (by omega) (by omega) (by omega) fun f' z4 _ _ hz4 => ?_
        simp only [dEqB_1]
        refine ⟨by omega, ?_⟩
        have gg := go n (decide (f = 0)) (decide (f' = 0))
        have k := h (S ++ [s] ++ [⟨s.hi, decide (f = 0), (1, 1), decide (f' = 0)⟩]) (Sl.fr (.tup [.int s.hi.1, .int s.hi.2])) (Sl.fr (.bl (decide (f = 0)))) z4 (fun x hx => by
          rcases List.mem_append.mp hx with w | w
          · exact g1 x w
          · rw [List.mem_singleton] at w; subst w; exact gg) (by simp) (by omega)
        simpa [Pc.D, prD] using k
      first
        | exact ⟨fun _ => fin, fun u v => absurd ⟨u, v⟩ n⟩
        | exact ⟨fun u v => absurd ⟨u, v⟩ n, fun _ => fin⟩
  · simp [cz]
    exact stop _ _ z2 (by omega)
theorem l_build (t3 t4 t5 t6 : Sl) : ∀ (ds : List D) (S : List Pc) (t2 t7 t8 : Sl) (Q : Fl → Rho → Int → Prop) (X : Er → Rho → Int → Prop) (z : Int), (∀ s ∈ S, GoodPc s) → S.length + 2 * ds.length ≤ 1000 → z + 20 * ds.length < 10 ^ 14 →
    (∀ (S' : List Pc) t2 t7 t8 z', (∀ s ∈ S', GoodPc s) → S'.length ≤ S.length + 2 * ds.length → z' ≤ z + 20 * ds.length → Q .nx [Sl.fr .cel, Sl.own (S'.map Pc.D), t2, t3, t4, t5, t6, t7, t8] z') →
    forL (gN 2) p1__law_dv_width_right ds [Sl.fr .cel, Sl.own (S.map Pc.D), t2, t3, t4, t5, t6, t7, t8] Q X z := by
  intro ds
  induction ds with
  | nil => intro S t2 t7 t8 Q X z hS _ _ hq; exact hq S t2 t7 t8 z hS (by simp) (by simp)
  | cons d ds ih =>
    intro S t2 t7 t8 Q X z hS hl hz hq
    simp only [List.length_cons] at hl hq hz
    simp only [forL_cons, gN_a, List.set_cons_zero, List.set_cons_succ]
    refine t_build S hS (by omega) _ _ _ _ _ _ _ _ _ z (by omega) fun S' t7 t8 z' h1 h2 h3 => ?_
    simp only [forK_1]
    exact ih S' _ _ _ Q X z' h1 (by omega) (by omega) fun S'' t2 t7 t8 z'' k1 k2 k3 => hq S'' t2 t7 t8 z'' k1 (by omega) (by omega)
theorem ins_behind (A : List D) (b : D) (B : List D) (k : Nat) (y : D) (h : A.length + 1 ≤ k) : ∃ B', insD (A ++ b :: B) k y = A ++ b :: B' ∧ B'.length = B.length + 1 := by
  unfold insD
  obtain ⟨m, rfl⟩ := Nat.exists_eq_add_of_le h
  refine ⟨B.take m ++ [y] ++ B.drop m, ?_, ?_⟩
  · rw [List.take_append, List.drop_append, List.take_of_length_le (by omega), List.drop_eq_nil_of_le (by omega), show A.length + 1 + m - A.length = m + 1 by omega]
    simp
  · simp
    omega
structure Due (L : List D) (v : Int × Int) : Prop where
  ac : Ac v
  w : ∀ (Q : D → Int → Prop) (X : Er → Int → Prop) z, Q (prD v) z → m_widest [.lst L] Q X z
  u : ∃ U : D, (∀ (K : D → Int → Prop) (X : Er → Int → Prop) z, K U z → m__law_dv_union [.lst L] K X z) ∧ (∀ (Q : D → Int → Prop) (X : Er → Int → Prop) z, Q (prD v) z → m__law_dv_widest [U] Q X z)
theorem ac0 : Ac (0, 1) := ⟨⟨by decide, by decide⟩, by decide⟩
theorem ac_fold {G : List (Int × Int)} (g : Grid G) : ∀ (R : List PP) (a : Int × Int), Ac a → Ac (R.foldl (wmax G) a)
  | [], a, h => h
  | p :: R, a, h => by
    rw [List.foldl_cons]
    refine ac_fold g R _ ?_
    unfold wmax
    split
    · exact (wid_facts g p).2.2.2
    · exact h
theorem due_of (SS : List Pc) (h : ∀ s ∈ SS, GoodPc s) (hl : SS.length ≤ 400) : ∃ v, Due (SS.map Pc.D) v := by
  obtain ⟨G, g, P, vP, e⟩ := emb SS h hl
  have el : SS.map Pc.D = hg G P := by rw [e, hg_pcs]
  have pl : P.length ≤ 1000 := by
    have : SS.length = P.length := by rw [e, List.length_map]
    omega
  obtain ⟨R, cR, eR⟩ := ex_set P (fun p hp => (vP p hp).le) pl
  rw [el]
  refine ⟨R.foldl (wmax G) (0, 1), ac_fold g R _ ac0, fun Q X z hq => w_widest g P R vP pl cR eR Q X z fun _ => hq, .lst (hg G R), fun K X z hk => w__law_dv_union g P vP pl K X z fun R' c e' v l => ?_, fun Q X z hq => w__law_dv_widest g R Q X z fun _ => hq⟩
  have : R' = R := c.uniq cR fun j => (e' j).trans (eR j).symm
  subst this
  exact hk
theorem wr8_ok (A : List Pc) (b0 b1 : Pc) (B : List D) (hA : ∀ s ∈ A, s.Sm ∧ s.ok ∧ s.hi.1 ≤ s.hi.2) (hb : BadPc b0) (t1 t2 t3 t6 t7 t8 : Sl) (Q : D → Int → Prop) (X : Er → Rho → Int → Prop) (z : Int) (hz : z < 10 ^ 16) (h : ∀ z', z' ≤ z + 1 → Q (.bl true) z') :
    wr8 [Sl.fr .cel, t1, t2, t3, Sl.fr (.lst [b0.D, b1.D]), Sl.own (A.map Pc.D ++ b0.D :: B), t6, t7, t8] (outF Q) X z := by
  have ok := raised_ok hb.sm
  simp [wr8]
  refine w__law_dv_coin 2 _ _ z (by omega) (by omega) (by omega) fun c z1 _ _ hz1 => ?_
  refine caught_bad _ c b0.D _ _ z1 (fun Q X hq => w_widest_bad A b0 B hA hb _ _ z1 hq) ?_
  simp [ok]
  exact h _ hz1
theorem wr5_ok (SS : List Pc) (hS : ∀ s ∈ SS, GoodPc s) (hl : SS.length ≤ 400) (b0 b1 : Pc) (hb : BadPc b0) (t2 t3 t5 t7 t8 : Sl) (Q : D → Int → Prop) (X : Er → Rho → Int → Prop) (z : Int) (hz : z < 10 ^ 15) (h : ∀ z', z' ≤ z + 3 → Q (.bl true) z') :
    wr5 [Sl.fr .cel, Sl.own (SS.map Pc.D), t2, t3, Sl.fr (.lst [b0.D, b1.D]), t5, .no, t7, t8] (outF Q) X z := by
  simp [wr5]
  refine w__law_dv_coin _ _ _ z (by omega) (by omega) (by omega) fun p z1 p0 p1 hz1 => ?_
  obtain ⟨n, rfl⟩ := Int.eq_ofNat_of_zero_le p0
  have hn : n ≤ SS.length := by omega
  have e1 : insD (SS.map Pc.D) n b0.D = (SS.take n).map Pc.D ++ b0.D :: (SS.map Pc.D).drop n := by
    unfold insD
    rw [List.map_take]
    simp
  have l1 : ((SS.take n).map Pc.D).length = n := by simp; omega
  simp [e1]
  refine ⟨⟨by omega, by omega⟩, ?_⟩
  have ec : ((min n SS.length : Nat) : Int) + (((SS.length - n : Nat) : Int) + 1) - n = SS.length - n + 1 := by omega
  rw [ec]
  refine w__law_dv_coin _ _ _ z1 (by omega) (by omega) (by omega) fun c z2 c0 c1 hz2 => ?_
  obtain ⟨m, rfl⟩ := Int.eq_ofNat_of_zero_le c0
  have em : List.take n (SS.map Pc.D) = (SS.take n).map Pc.D := List.map_take.symm
  rw [em]
  obtain ⟨B', eb, lb⟩ := ins_behind ((SS.take n).map Pc.D) b0.D ((SS.map Pc.D).drop n) (n + 1 + m) b1.D (by rw [l1]; omega)
  have en : ((n : Int) + 1 + m).toNat = n + 1 + m := by omega
  simp only [dAdd_1, en, eb]
  refine ⟨⟨by omega, by omega, by simp; omega⟩, ?_⟩
  exact wr8_ok (SS.take n) b0 b1 B' (fun s hs => (hS s (List.mem_of_mem_take hs)).g3) hb _ _ _ _ _ _ Q X z2 (by omega) fun z' hz' => h z' (by omega)
theorem t_turn (SS : List Pc) (hl : SS.length ≤ 400) (v : Int × Int) (du : Due (SS.map Pc.D) v) (w : Int) (t4 t5 t6 t7 t8 : Sl) (Q : Fl → Rho → Int → Prop) (X : Er → Rho → Int → Prop) (z : Int) (h : ∀ t5, Q .nx [Sl.fr .cel, Sl.own (SS.map Pc.D), Sl.fr (.int w), Sl.fr (.lst [prD v]), t4, t5, t6, t7, t8] z) :
    p0__law_dv_width_right [Sl.fr .cel, Sl.own (SS.map Pc.D), Sl.fr (.int w), Sl.fr (.lst [prD v]), t4, t5, t6, t7, t8] Q X z := by
  have ok := one_ok du.ac
  rw [p0__law_dv_width_right]
  simp
  refine caught_good _ w (prD v) _ _ z (fun Q X hq => du.w Q X z hq) ?_
  simp [ok]
  refine pcs_eq SS _ ?_
  simp
  exact h _
theorem wr2_ok (SS : List Pc) (hS : ∀ s ∈ SS, GoodPc s) (hl : SS.length ≤ 400) (t2 t7 t8 : Sl) (Q : D → Int → Prop) (X : Er → Rho → Int → Prop) (z : Int) (hz : z < 10 ^ 14) (h : ∀ z', z' ≤ z + 30 → Q (.bl true) z') :
    wr2 [Sl.fr .cel, Sl.own (SS.map Pc.D), t2, .no, .no, .no, .no, t7, t8] (outF Q) X z := by
  obtain ⟨v, du⟩ := due_of SS hS hl
  obtain ⟨U, u1, u2⟩ := du.u
  have sp : rngD 0 2 = [.int 0, .int 1] := rfl
  simp [wr2]
  refine u1 _ _ z ?_
  refine u2 _ _ z ?_
  simp [prD]
  rw [sp]
  simp only [forL_cons, gN_a, List.set_cons_zero, List.set_cons_succ]
  refine t_turn SS hl v du 0 _ _ _ _ _ _ _ z fun t5 => ?_
  simp only [forK_1, forL_cons, gN_a, List.set_cons_zero, List.set_cons_succ]
  refine t_turn SS hl v du 1 _ _ _ _ _ _ _ z fun t5 => ?_
  simp [wr4]
  refine w__law_dv_bad_stretch _ _ z (by omega) fun b0 z1 hb0 hz1 => ?_
  refine w__law_dv_bad_stretch _ _ z1 (by omega) fun b1 z2 hb1 hz2 => ?_
  exact wr5_ok SS hS hl b0 b1 hb0 _ _ _ _ _ Q X z2 (by omega) fun z' hz' => h z' (by omega)
theorem w__law_dv_width_right (Q : D → Int → Prop) (X : Er → Int → Prop) (z : Int) (hz : z < 10 ^ 12) (h : ∀ z', z' ≤ z + 3000 → Q (.bl true) z') : m__law_dv_width_right [.cel] Q X z := by
  rw [me__law_dv_width_right, s__law_dv_width_right_eq]
  simp [wr1]
  refine w__law_dv_coin 3 _ _ z (by omega) (by omega) (by omega) fun c z1 c0 c1 hz1 => ?_
  simp
  refine atI_all _ _ c0 (by simpa using c1) _ ?_
  have all : ∀ n : Int, 1 ≤ n → n ≤ 90 → ∀ X0 X1, m__law_dv_coin [.cel, .int n] (fun a z' => fRng1 [a] [Sl.fr .cel, Sl.own [], .no, .no, .no, .no, .no, .no, .no] (fun ds ρ' z' => forL (gN 2) p1__law_dv_width_right ds ρ' (fun fl ρ' z' => fSeq wr2 fl ρ' (outF Q) X1 z') X1 z') X1 z') X0 z1 := fun n n0 n1 X0 X1 => by
    refine w__law_dv_coin n _ _ z1 (by omega) (by omega) (by omega) fun m z2 m0 m1 hz2 => ?_
    simp
    refine ⟨⟨by omega, by omega⟩, ?_⟩
    have hl : (rngD 0 m.toNat).length = m.toNat := rngD_length _ _
    refine l_build _ _ _ _ (rngD 0 m.toNat) [] _ _ _ _ _ z2 (fun s hs => nomatch hs) (by rw [hl]; simp; omega) (by rw [hl]; omega) fun S' t2 t7 t8 z3 h1 h2 h3 => ?_
    rw [hl] at h2 h3
    simp at h2
    simp
    exact wr2_ok S' h1 (by omega) _ _ _ Q _ z3 (by omega) fun z' hz' => h z' (by omega)
  simp
  exact ⟨all 10 (by omega) (by omega) _ _, all 90 (by omega) (by omega) _ _⟩
end LW

namespace LW
open PySem PySem.Spec PyProof.Rows L2 DL
theorem turn_law (ns : D) (i : Sl) (Q : Fl → Rho → Int → Prop) (X : Er → Rho → Int → Prop) (z : Int) (hz : z < 10 ^ 9) (t3 : Sl)
    (h : ∀ z', z' ≤ z + 3000 → Q .nx [Sl.fr ns, i, Sl.fr .cel, t3] z') : p0_law [Sl.fr ns, i, Sl.fr .cel, t3] Q X z := by
  rw [p0_law]
  simp
  refine w__law_dv_width_right _ _ z (by omega) fun z1 hz1 => ?_
  simp
  exact h _ (by omega)
theorem w_law (ns : List Int) (Q : D → Int → Prop) (X : Er → Int → Prop) (z : Int) (h : Q (.bl true) z) : m_law [.scr ns] Q X z := by
  rw [me_law]
  simp [s_law]
  have key : ∀ (n i : Nat) (t1 t2 t3 : Sl) (Q' : Fl → Rho → Int → Prop) (X' : Er → Rho → Int → Prop), n + i ≤ 5 → (∀ t1 t2 t3, Q' .nx [Sl.fr (.scr ns), t1, t2, t3] z) → forL (gN 1) p1_law (rngD (i : Nat) n) [Sl.fr (.scr ns), t1, t2, t3] Q' X' z := by
    intro n
    induction n with
    | zero => intro i t1 t2 t3 Q' X' hi hq; simp [rngD]; exact hq _ _ _
    | succ n ih =>
      intro i t1 t2 t3 Q' X' hi hq
      simp only [rngD, forL_cons, gN_a, List.set_cons_zero, List.set_cons_succ]
      rw [p1_law]
      simp
      refine w__law_dv_purse ns i _ _ z (by omega) fun x y hx hy hy2 => ?_
      simp
      refine ⟨⟨hx, hy, by omega⟩, ?_⟩
      have sp : rngD 0 2 = [.int 0, .int 1] := rfl
      rw [sp]
      simp only [forL_cons, gN_a, List.set_cons_zero, List.set_cons_succ]
      refine turn_law _ _ _ _ 0 (by omega) _ fun z1 h1 => ?_
      simp only [forK_1, forL_cons, gN_a, List.set_cons_zero, List.set_cons_succ]
      refine turn_law _ _ _ _ z1 (by omega) _ fun z2 h2 => ?_
      simp
      have e := ih (i + 1) (clnS (.fr (.int i))) (clnS (.fr .cel)) (clnS (.fr (.int 1))) Q' X' (by omega) hq
      have e2 : clnS (.fr (.scr ns)) = .fr (.scr ns) := rfl
      simp only [cln, List.map_cons, List.map_nil, e2]
      exact e
  generalize hm : (if 1 < (if (ns.length : Int) < 5 then (ns.length : Int) else 5) then (if (ns.length : Int) < 5 then (ns.length : Int) else 5) else 1) = m
  have hm2 : 1 ≤ m ∧ m ≤ 5 := by split at hm <;> split at hm <;> omega
  refine ⟨⟨by omega, by omega⟩, ?_⟩
  refine key m.toNat 0 .no .no .no _ _ (by omega) fun t1 t2 t3 => ?_
  simp
  exact h
end LW

open PySem PySem.W PySem.Calls PyProof.Rows
theorem PySem.Challenge.cw_dividersteps_k80_widest_ranges_holds : PySem.Challenge.rw_dividersteps_k80_widest_ranges.Holds := by
  w_on; o_law
  refine HandSHeadRun.head_any (r := OpenLaw.row PySem.Challenge.rw_dividersteps_k80_widest_ranges) (q := view (OpenLaw.row PySem.Challenge.rw_dividersteps_k80_widest_ranges).prog [39]) (H := LW.hkL) (ob := LW.obL) (M := 4000) (loose := LW.looseL) (d := HandSHeadRun.topDef (OpenLaw.row PySem.Challenge.rw_dividersteps_k80_widest_ranges).prog 39) (kwd := []) LW.obL_eq
    (by kernel_rfl) (fun s => by kernel_rfl) LW.runL (by kernel_rfl) (by kernel_rfl) (by kernel_rfl) (by rfl) (by first | assumption | decide +kernel) (by decide +kernel) ⟨rfl, rfl, rfl, rfl, rfl, by decide +kernel⟩ ?hw ?hc
  case hw => w_witness2
  case hc =>
    refine DL.walk_end (l := PySem.Challenge.rw_dividersteps_k80_widest_ranges) (n := 63) (k := 49) (x := "_law_script") (m := LW.m_law) rfl (by decide) (by kernel_rfl) ⟨rfl, by decide, by decide⟩ rfl ?F (fun ns hn => LW.w_law ns _ _ _ rfl)
    intro w mg fa h Y G hm
    obtain ⟨K, KX, c⟩ := Y
    have hm2 : mg ("law" : PySem.Str) = some (.ref fa) := by
      have e : (HandSHeadRun.topDef (OpenLaw.row PySem.Challenge.rw_dividersteps_k80_widest_ranges).prog 39).name = ("law" : PySem.Str) := by kernel_rfl
      rw [← e]
      exact hm
    have e := hm2.symm.trans (He.glo_ok KX G (c.1.fact 33 (f := .glo "law") rfl))
    cases e
    obtain ⟨fd, F⟩ := c.1.def_ 33 (d := LW.d39) rfl
    have b := L2.FunD.bindsA (ps := ["_law_script"]) F fun _ _ _ _ _ _ us hl => match us, hl with | [_], _ => rfl
    exact ⟨K, fd, KX, fun s u => b s [u] rfl, fun base hK hN => LW.ok_law (P := (PySem.Challenge.rw_dividersteps_k80_widest_ranges).prog) (w := w) (base := base) ⟨hK, hN, c⟩ F⟩
